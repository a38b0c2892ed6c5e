/- A part of the proof (texts Any, Env, Ops, Queue, Str, Make, SA). -/
import Derived.Below
import Derived.Deep.MidRow
import Derived.Great.BuildSlice
import Derived.Laws.OwnMore
import Derived.Lib.SlicesS
import Derived.OrdersIn
import Derived.RangeFuncCalls
import Derived.Still
import Derived.Tactics
import Derived.WalkKit
import Derived.WalkLawsBesides
import Derived.WalkSpells
set_option linter.all false
set_option maxRecDepth 100000
theorem Go.au {P:Prop} (h:P:=by omega):P:=h
theorem Go.bg {P:Prop} (h:P:=by (try dsimp only);omega):P:=h
theorem Go.aK {α:Sort _} {x:α} {b:Prop} (h:b):x=x/\b:=⟨rfl,h⟩
namespace Go.XK
open List renaming getElem?_eq_getElem -> bZ
open Go.RowKit
def Ext (w w':World):Prop:=Below w.heap.size w w'
theorem Ext.refl (w:World):Ext w w:=Below.refl _ _
theorem Ext.trans {a b c:World} (h:Ext a b) (k:Ext b c):Ext a c:=Below.trans h (Below.mono k h.size)
theorem Ext.drawn (w:World):Ext w { w with drawn:=w.drawn+1 }:=⟨rfl,rfl,rfl,Nat.le_refl _,fun _ _=>rfl⟩
abbrev FR (ro:Option Nat):Fence:={ Fence.wide with round:=ro }
section
variable (P:Program) (ops:Array Oper) (md:Region.Mode) (kd:Nat->Nat)
def kD (v:Value) (w:World):Result Next->Prop
 |.ok (.value u) w'=>u=v/\Ext w w'
 |.ok .skip w'=>v=undef/\Ext w w'
 |.ok (.enter f args) w'=>w'=w/\Calls P f args w' (fun e w''=>e=.returned v/\Ext w w'')
 |_=>False
def bf (v:Value) (w:World):Result Next->Prop
 |.ok (.value u) w'=>u=v/\w'=w
 |_=>False
def jJ (K:Value->World->Prop):Result Next->Prop
 |.ok (.value u) w'=>K u w'
 |.ok .skip w'=>K undef w'
 |.ok (.enter f args) w'=>Calls P f args w' (fun e w''=>∃ v,e=.returned v/\K v w'')
 |.ok (.round l f tmps assign body) w'=>RoundIn Fence.wide 0 P l f tmps assign body w' (fun e w''=>∃ v,e=.returned v/\K v w'')
 |_=>False
def l6 (o:Oper) (K:Act->World->Prop) (a:Act) (wc:World):Nat->Prop
 |0=>∃ v,(∀ w,Ext wc w->kD P v w ((execOp a.eval o).run P w))/\K (a.put o.dst v) wc
 |1=>∃ v,(∀ w,bf v w ((execOp a.eval o).run P w))/\K (a.put o.dst v) wc
 |2=>∀ w,Ext wc w->jJ P (fun v w'=>Ext w w'/\K (a.put o.dst v) w') ((execOp a.eval o).run P w)
 |_+3=>∀ w,Ext wc w->jJ P (fun v w'=>K (a.put o.dst v) w') ((execOp a.eval o).run P w)
def qw (i:Nat) (K:Act->World->Prop) (a:Act) (wc:World):Prop :=
 match ops[i]? with
 |none=>False
 |some o=>if Region.wanted o (yielded ops a.tmps)then l6 P o K a wc (kd i)else K (a.put o.dst undef) wc
def AnyX (Kf:Act->World->Prop):Nat->Array Bool->Act->World->Prop
 |0,listed,a,wc=>Region.ready md ops listed=[]/\∀ w,Ext wc w->Kf a w
 |f+1,listed,a,wc=>(Region.ready md ops listed=[]->∀ w,Ext wc w->Kf a w) /\
     ∀ i∈Region.ready md ops listed,qw P ops kd i (AnyX Kf f (listed.setIfInBounds i true)) a wc
def YX (i:Nat) (o:Oper) (v:Value) (a:Act) (wc:World):Prop :=
 (Region.wanted o (yielded ops a.tmps)=true/\((kd i=0/\∀ w,Ext wc w->kD P v w ((execOp a.eval o).run P w))\/(kd i=1/\∀ w,bf v w ((execOp a.eval o).run P w)))) \/
 (Region.wanted o (yielded ops a.tmps)=false/\v=undef)
def wpX (Kf:Act->World->Prop):List Nat->Act->World->Prop
 |[],a,wc=>∀ w,Ext wc w->Kf a w
 |i::l,a,wc=>qw P ops kd i (wpX Kf l) a wc
def needs:Nat->Nat->Nat->Bool
 |0,_,_=>false
 |f+1,j,i=>match ops[j]? with
   |some o=>o.after.any fun e=>Region.binds md e&&(e.on==i||needs f e.on i)
   |none=>false
def Ro (listed:Array Bool) (i:Nat):Bool :=
 (List.range ops.size).all fun j=>kd j<=2||j==i||listed.getD j true||needs ops md ops.size j i
def Ie:List Nat->Array Bool->Bool
 |[],listed=>(Region.ready md ops listed).isEmpty
 |i::l,listed=>(Region.ready md ops listed).contains i &&
     (if kd i<=1 then Region.free md ops listed i&&(kd i==1||Ro ops md kd listed i)else Region.ready md ops listed==[i]) &&
     Ie l (listed.setIfInBounds i true)
end
section
variable {P:Program} {ops:Array Oper} {md:Region.Mode} {kd:Nat->Nat} {Kf:Act->World->Prop}
theorem iO {K K':Value->World->Prop} {r:Result Next} (h:∀ v w,K v w->K' v w) (hr:jJ P K r):jJ P K' r:=by
 cases r with
 |ok n w' =>
   cases n<;>simp only [jJ]at hr ⊢
   case enter f args=>exact hr.mono fun e w'' ⟨v,he,hk⟩=>⟨v,he,h _ _ hk⟩
   case round l f tmps assign body=>exact hr.mono fun e w'' ⟨v,he,hk⟩=>⟨v,he,h _ _ hk⟩
   all_goals exact h _ _ hr
 |halt x w'=>exact hr
theorem eP {i:Nat} {K K':Act->World->Prop} {a:Act} {wc:World} (h:∀ a w,K a w->K' a w) (hx:qw P ops kd i K a wc):qw P ops kd i K' a wc:=by
 unfold qw at *
 cases ho:ops[i]? with
 |none=>simp [ho]at hx
 |some o =>
   simp only [ho]at hx ⊢;split
   ·rename_i hw;simp only [hw,if_true]at hx;rcases hk:kd i with _|_|_|n<;>simp only [hk,l6]at hx ⊢
    ·obtain⟨v,h1,h2⟩:=hx;exact⟨v,h1,h _ _ h2⟩
    ·obtain⟨v,h1,h2⟩:=hx;exact⟨v,h1,h _ _ h2⟩
    ·exact fun w hw'=>iO (fun v w' ⟨q1,q2⟩=>⟨q1,h _ _ q2⟩) (hx w hw')
    ·exact fun w hw'=>iO (fun v w' q=>h _ _ q) (hx w hw')
   ·rename_i hw;simp only [hw]at hx;exact h _ _ hx
theorem U4 {c:Call} {o:Oper} {ρ:Operand->Value} (ho:o.op=.defer c) (w:World):(∃ d w',(execOp ρ o).run P w=.ok (.defer d) w')\/∃ h w',(execOp ρ o).run P w=.halt h w':=by
 simp only [execOp,ho,Sem.run_bind]
 cases hr:(resolve ρ c o.type).run P w with
 |ok d w'=>exact .inl ⟨d,w',by simp [Result.andThen]⟩
 |halt h w'=>exact .inr ⟨h,w',by simp [Result.andThen]⟩
theorem Ar {ro:Option Nat} {o:Oper} {ρ:Operand->Value} {w:World} (h:∀ n w',(execOp ρ o).run P w≠.ok (.defer n) w') (h2:∀ e w',(execOp ρ o).run P w≠.halt e w'):o.semAt ro ρ=execOp ρ o :=
 Oper.semAt_eq ro ρ o fun c hc=>by
   rcases U4 (P:=P) (ρ:=ρ) hc w with ⟨d,w',e⟩|⟨e,w',e'⟩
   ·exact h _ _ e
   ·exact h2 _ _ e'
theorem Ab {ro:Option Nat} {n:Nat} {f:FuncId} {args:Array Value} {w:World} {R:Ending->World->Prop} (h:Calls P f args w R):CallsIn (FR ro) n P f args w R:=by
 cases ro with
 |none=>exact callsIn_wide.2 h
 |some l=>exact CallsIn.inRound l (callsIn_wide.2 h)
theorem F6 {ro:Option Nat} {n m:Nat} {l:Nat} {f:FuncId} {tmps:Array Value} {assign body:Code} {w:World} {R:Ending->World->Prop} (h:RoundIn Fence.wide n P l f tmps assign body w R):RoundIn (FR ro) m P l f tmps assign body w R :=
 ⟨trivial,fun c cs _=>h.2 c cs (room_wide _)⟩
theorem Dz {Q:Exit->Act->World->Prop} {ro:Option Nat} {i:Nat} {K:Act->World->Prop} {K':Act->World->Prop} {a:Act} {wc w:World} (hw:Ext wc w)
   (h:∀ a wc w,Ext wc w->K a wc->K' a w) (hx:qw P ops kd i K a wc):wpOpIn (FR ro) 0 P ops Q i K' a w:=by
 unfold qw at hx;unfold wpOpIn
 cases ho:ops[i]? with
 |none=>simp [ho]at hx
 |some o =>
   simp only [ho]at hx ⊢;split
   ·rename_i hwt;simp only [hwt,if_true]at hx;refine⟨fun _ _=>trivial,?_⟩
    rcases hk:kd i with _|_|_|n<;>simp only [hk,l6]at hx
    ·obtain⟨v,h1,h2⟩:=hx;have h3:=h1 w hw;rw [Ar (P:=P) (w:=w) (fun n w' e=>by rw [e]at h3;exact h3) (fun n w' e=>by rw [e]at h3;exact h3)]
     generalize (execOp a.eval o).run P w=r at *
     cases r with
     |ok n w' =>
       cases n<;>simp only [kD]at h3<;>simp only [Oper.uponIn]
       case value u=>obtain⟨rfl,e⟩:=h3;exact h _ _ _ (hw.trans e) h2
       case skip=>obtain⟨rfl,e⟩:=h3;exact h _ _ _ (hw.trans e) h2
       case enter f args =>
         obtain⟨rfl,hc⟩:=h3;exact⟨(fun hd=>by cases hd),Ab (hc.mono fun e w'' ⟨he,hw''⟩=>by subst he;exact h _ _ _ (hw.trans hw'') h2)⟩
     |halt x w'=>simp only [kD]at h3
    ·obtain⟨v,h1,h2⟩:=hx;have h3:=h1 w;rw [Ar (P:=P) (w:=w) (fun n w' e=>by rw [e]at h3;exact h3) (fun n w' e=>by rw [e]at h3;exact h3)]
     generalize (execOp a.eval o).run P w=r at *
     cases r with
     |ok n w' =>
       cases n<;>simp only [bf]at h3<;>simp only [Oper.uponIn]
       case value u=>obtain⟨rfl,rfl⟩:=h3;exact h _ _ _ hw h2
     |halt x w'=>simp only [bf]at h3
    ·have h3:=hx w hw;rw [Ar (P:=P) (w:=w) (fun n w' e=>by rw [e]at h3;exact h3) (fun n w' e=>by rw [e]at h3;exact h3)]
     generalize (execOp a.eval o).run P w=r at *
     cases r with
     |ok n w' =>
       cases n<;>simp only [jJ]at h3<;>simp only [Oper.uponIn]
       case value u=>exact h _ _ _ (Ext.refl _) h3.2
       case skip=>exact h _ _ _ (Ext.refl _) h3.2
       case enter f args=>exact⟨(fun hd=>by cases hd),Ab (h3.mono fun e w'' ⟨v,he,hk⟩=>by subst he;exact h _ _ _ (Ext.refl _) hk.2)⟩
       case round l f tmps assign body=>exact⟨(fun hd=>by cases hd),F6 (h3.mono fun e w'' ⟨v,he,hk⟩=>by subst he;exact h _ _ _ (Ext.refl _) hk.2)⟩
     |halt x w'=>simp only [jJ]at h3
    ·have h3:=hx w hw;rw [Ar (P:=P) (w:=w) (fun n w' e=>by rw [e]at h3;exact h3) (fun n w' e=>by rw [e]at h3;exact h3)]
     generalize (execOp a.eval o).run P w=r at *
     cases r with
     |ok n w' =>
       cases n<;>simp only [jJ]at h3<;>simp only [Oper.uponIn]
       case value u=>exact h _ _ _ (Ext.refl _) h3
       case skip=>exact h _ _ _ (Ext.refl _) h3
       case enter f args=>exact⟨(fun hd=>by cases hd),Ab (h3.mono fun e w'' ⟨v,he,hk⟩=>by subst he;exact h _ _ _ (Ext.refl _) hk)⟩
       case round l f tmps assign body=>exact⟨(fun hd=>by cases hd),F6 (h3.mono fun e w'' ⟨v,he,hk⟩=>by subst he;exact h _ _ _ (Ext.refl _) hk)⟩
     |halt x w'=>simp only [jJ]at h3
   ·rename_i hwt;simp only [hwt]at hx;exact⟨fun _ _=>trivial,h _ _ _ hw hx⟩
theorem su {Q:Exit->Act->World->Prop} {ro:Option Nat} (hQ:∀ a w,Kf a w->Q .normal a w):∀ (f:Nat) (listed:Array Bool) (a:Act) (wc w:World),Ext wc w->AnyX P ops md kd Kf f listed a wc->wpAnyIn (FR ro) 0 P md ops Q f listed a w
 |0,_,_,_,_,hw,h=>⟨h.1,hQ _ _ (h.2 _ hw)⟩
 |f+1,_,_,_,_,hw,h=>⟨fun h0=>hQ _ _ (h.1 h0 _ hw),fun i hi=>Dz hw (fun a' wc' w' hw' h'=>su hQ f _ a' wc' w' hw' h') (h.2 i hi)⟩
theorem YX.qw {i:Nat} {o:Oper} {v:Value} {a:Act} {wc:World} (hi:ops[i]?=some o) (hy:YX P ops kd i o v a wc) {K:Act->World->Prop} (h:K (a.put o.dst v) wc):qw P ops kd i K a wc:=by
 unfold XK.qw;simp only [hi];rcases hy with ⟨hw,⟨hk,hv⟩|⟨hk,hv⟩⟩|⟨hw,rfl⟩
 ·simp only [hw,if_true,hk,l6];exact⟨v,hv,h⟩
 ·simp only [hw,if_true,hk,l6];exact⟨v,hv,h⟩
 ·simp only [hw,Bool.false_eq_true,if_false];exact h
theorem YX.of_same {i:Nat} {o:Oper} {v:Value} {a a':Act} {wc:World} (hy:YX P ops kd i o v a wc) (he:execOp a'.eval o=execOp a.eval o)
   (hw:Region.wanted o (yielded ops a'.tmps)=Region.wanted o (yielded ops a.tmps)):YX P ops kd i o v a' wc:=by
 unfold YX at *;rw [he,hw];exact hy
theorem YX.later {i:Nat} {o:Oper} {v:Value} {a:Act} {wc wd:World} (hy:YX P ops kd i o v a wc) (he:Ext wc wd):YX P ops kd i o v a wd:=by
 rcases hy with ⟨hw,⟨hk,hv⟩|⟨hk,hv⟩⟩|h
 ·exact .inl ⟨hw,.inl ⟨hk,fun w h=>hv w (he.trans h)⟩⟩
 ·exact .inl ⟨hw,.inr ⟨hk,hv⟩⟩
 ·exact .inr h
theorem YX.silent {i:Nat} {o:Oper} {v:Value} {a:Act} {wc wd:World} (hy:YX P ops kd i o v a wc) (hk:kd i≠0):YX P ops kd i o v a wd:=by
 rcases hy with ⟨hw,⟨hk',hv⟩|⟨hk',hv⟩⟩|h
 ·exact absurd hk' hk
 ·exact .inl ⟨hw,.inr ⟨hk',hv⟩⟩
 ·exact .inr h
theorem Jt {i:Nat} {o:Oper} {a:Act} {wc:World} {K:Act->World->Prop} (hi:ops[i]?=some o) (hk:kd i<=1) (h:qw P ops kd i K a wc):∃ v,YX P ops kd i o v a wc/\K (a.put o.dst v) wc:=by
 unfold XK.qw at h;simp only [hi]at h
 by_cases hw:Region.wanted o (yielded ops a.tmps)=true
 ·simp only [hw,if_true]at h;rcases hk':kd i with _|_|n
  ·simp only [hk',l6]at h;obtain⟨v,h1,h2⟩:=h;exact⟨v,.inl ⟨hw,.inl ⟨hk',h1⟩⟩,h2⟩
  ·simp only [hk',l6]at h;obtain⟨v,h1,h2⟩:=h;exact⟨v,.inl ⟨hw,.inr ⟨hk',h1⟩⟩,h2⟩
  ·omega
 ·simp only [hw]at h;exact⟨undef,.inr ⟨by simpa using hw,rfl⟩,h⟩
theorem xOp_put {i j:Nat} {oi oj:Oper} {v:Value} (hj:ops[j]?=some oj) (hap:oi.apart ops oj=true)
   (hsi:∀ cs b,oi.op≠.select cs b) (hsj:∀ cs b,oj.op≠.select cs b) {K:Act->World->Prop} {a:Act} {wc:World}
   (hbar:kd j<=2\/kd i≠0) (hy:YX P ops kd i oi v a wc) (h:qw P ops kd j K (a.put oi.dst v) wc) :
   qw P ops kd j (fun a' w'=>YX P ops kd i oi v a' w'/\K (a'.put oi.dst v) w') a wc:=by
 obtain⟨h1,h2,h3⟩:=Oper.apart_spec hap
 have keep:∀ (a:Act) (wc:World),YX P ops kd i oi v a wc->∀ u,YX P ops kd i oi v (a.put oj.dst u) wc:=fun a wc hy u =>
   hy.of_same (execOp_put oi hsi a oj.dst u h3) (wanted_put oi a oj.dst u h3)
 unfold XK.qw at *;simp only [hj]at *;rw [wanted_put oj a oi.dst v h1]at h;split
 ·rename_i hw;simp only [hw,if_true]at h;rcases hk:kd j with _|_|_|n<;>simp only [hk,l6,execOp_put oj hsj a oi.dst v h1]at h ⊢
  ·obtain⟨u,hu,hn⟩:=h;exact⟨u,hu,keep a wc hy u,by rw [<- Act.put_comm a v u h2];exact hn⟩
  ·obtain⟨u,hu,hn⟩:=h;exact⟨u,hu,keep a wc hy u,by rw [<- Act.put_comm a v u h2];exact hn⟩
  ·intro w hw';exact iO (fun u w' ⟨q1,q2⟩=>⟨q1,keep a w' (hy.later (hw'.trans q1)) u,by rw [<- Act.put_comm a v u h2];exact q2⟩) (h w hw')
  ·have hk0:kd i≠0:=by
     rcases hbar with hb|hb
     ·omega
     ·exact hb
   intro w hw';exact iO (fun u w' q=>⟨keep a w' (hy.silent hk0) u,by rw [<- Act.put_comm a v u h2];exact q⟩) (h w hw')
 ·rename_i hw;simp only [hw]at h;exact⟨keep a wc hy _,by rw [<- Act.put_comm a v undef h2];exact h⟩
def Closed (md:Region.Mode) (ops:Array Oper) (listed:Array Bool):Prop :=
 ∀ j oj,ops[j]?=some oj->listed.getD j false=true->∀ e∈oj.after,Region.binds md e=true->listed.getD e.on false=true
theorem Closed.set {i:Nat} {listed:Array Bool} (hc:Closed md ops listed) (hi:i∈Region.ready md ops listed):Closed md ops (listed.setIfInBounds i true):=by
 obtain⟨_,oi,hoi,hall⟩:=mem_ready.1 hi;intro j oj hj hl e he hb
 by_cases hij:i=j
 ·subst hij;have:oj=oi:=Option.some.inj (hj.symm.trans hoi);subst this;exact getD_set_true (hall e he hb)
 ·rw [getD_set_ne false hij]at hl;exact getD_set_true (hc j oj hj hl e he hb)
theorem Mc {listed:Array Bool} (hc:Closed md ops listed):∀ (f j i:Nat) (oj:Oper),ops[j]?=some oj->needs ops md f j i=true ->
   (∀ e∈oj.after,Region.binds md e=true->listed.getD e.on false=true)->listed.getD i false=true:=by
 intro f
 induction f with
 |zero=>intro j i oj _ h;cases h
 |succ f ih =>
   intro j i oj hj h hall;simp only [needs,hj]at h;obtain⟨e,he,hb⟩:=Array.any_eq_true'.1 h;simp only [Bool.and_eq_true,Bool.or_eq_true,beq_iff_eq]at hb;have hl:=hall e he hb.1;rcases hb.2 with h2|h2
   ·rw [<- h2];exact hl
   ·cases hoe:ops[e.on]? with
    |none=>cases f<;>simp [needs,hoe]at h2
    |some oe=>exact ih e.on i oe hoe h2 (hc e.on oe hoe hl)
theorem IX {i:Nat} {oi:Oper} {v:Value} (hi:ops[i]?=some oi) (hsel:∀ (j:Nat) (o:Oper) cs b,ops[j]?=some o->o.op≠.select cs b) :
   ∀ (fuel:Nat) (listed:Array Bool) (a:Act) (wc:World),Closed md ops listed ->
     (∀ j oj,ops[j]?=some oj->j≠i->listed.getD j true=false->(∀ e∈oj.after,Region.binds md e=true->e.on≠i)->oi.apart ops oj=true) ->
     (kd i≠0\/∀ j,j<ops.size->j≠i->listed.getD j true=false->kd j<=2\/needs ops md ops.size j i=true) ->
     i∈Region.ready md ops listed->YX P ops kd i oi v a wc ->
     AnyX P ops md kd Kf fuel (listed.setIfInBounds i true) (a.put oi.dst v) wc->AnyX P ops md kd Kf (fuel+1) listed a wc:=by
 intro fuel
 induction fuel with
 |zero =>
   intro listed a wc _ _ _ hr hy H;refine⟨fun h=>(by rw [h]at hr;cases hr),fun j hj=>?_⟩
   by_cases hji:j=i
   ·subst hji;exact hy.qw hi H
   ·have:=ready_mono hj hji;rw [H.1]at this;cases this
 |succ fuel ih =>
   intro listed a wc hcl hfree hbars hr hy H;refine⟨fun h=>(by rw [h]at hr;cases hr),fun j hj=>?_⟩
   by_cases hji:j=i
   ·subst hji;exact hy.qw hi H
   ·have h1:=H.2 j (ready_mono hj hji);obtain⟨hjun,oj,hoj,hall⟩:=mem_ready.1 hj
    have hiun:listed.getD i false=false:=by
      have h0:=(mem_ready.1 hr).1;rcases Nat.lt_or_ge i listed.size with h'|h'
      ·simp [h']at h0 ⊢;exact h0
      ·simp [Array.getElem?_eq_none h']at h0
    have hnot:∀ e∈oj.after,Region.binds md e=true->e.on≠i:=fun e he hb heq=>by
      have h1:=hall e he hb;rw [heq,hiun]at h1;cases h1
    have hbar:kd j<=2\/kd i≠0:=by
      rcases hbars with hb|hb
      ·exact .inr hb
      ·rcases hb j (Array.getElem?_eq_some_iff.1 hoj).1 hji hjun with h2|h2
       ·exact .inl h2
       ·have:=Mc hcl ops.size j i oj hoj h2 hall;rw [hiun]at this;cases this
    have h2:=xOp_put hoj (hfree j oj hoj hji hjun hnot) (fun cs b=>hsel i oi cs b hi) (fun cs b=>hsel j oj cs b hoj) hbar hy h1
    have hun':∀ k,(listed.setIfInBounds j true).getD k true=false->listed.getD k true=false:=fun k hun=>by
      by_cases hjk:j=k
      ·subst hjk;exact hjun
      ·rw [getD_set_ne true hjk]at hun;exact hun
    have hfree':∀ k ok,ops[k]?=some ok->k≠i->(listed.setIfInBounds j true).getD k true=false ->
        (∀ e∈ok.after,Region.binds md e=true->e.on≠i)->oi.apart ops ok=true:=fun k ok hk hki hun hno=>hfree k ok hk hki (hun' k hun) hno
    have hbars':kd i≠0\/∀ k,k<ops.size->k≠i->(listed.setIfInBounds j true).getD k true=false->kd k<=2\/needs ops md ops.size k i=true :=
      hbars.imp id fun hb k hk hki hun=>hb k hk hki (hun' k hun)
    refine eP (fun a' w' h3=>ih (listed.setIfInBounds j true) a' w' (hcl.set hj) hfree' hbars' (ready_mono hr (Ne.symm hji)) h3.1 ?_) h2
    rw [Array.setIfInBounds_comm _ _ hji];exact h3.2
theorem IW (hs:Region.noSelect ops=true):∀ (l:List Nat) (listed:Array Bool) (a:Act) (wc:World),Closed md ops listed ->
   Ie ops md kd l listed=true->wpX P ops kd Kf l a wc->AnyX P ops md kd Kf l.length listed a wc
 |[],_,_,_,_,hB,h=>⟨by simpa [Ie] using hB,h⟩
 |i::l,listed,a,wc,hcl,hB,h=>by
   simp only [Ie,Bool.and_eq_true]at hB;obtain⟨⟨hr,hf⟩,hB'⟩:=hB;have hr':i∈Region.ready md ops listed:=by simpa using hr
   obtain⟨_,oi,hoi,_⟩:=mem_ready.1 hr';have hrec:=fun a' wc' h'=>IW hs l (listed.setIfInBounds i true) a' wc' (hcl.set hr') hB' h'
   by_cases hk:kd i<=1
   ·simp only [hk,if_true,Bool.and_eq_true,Bool.or_eq_true,beq_iff_eq]at hf;obtain⟨v,hy,hK⟩:=Jt hoi hk h;refine IX hoi (Region.noSelect_spec hs) l.length listed a wc hcl (Region.free_spec hoi hf.1) ?_ hr' hy (hrec _ _ hK);rcases hf.2 with h1|h1
    ·exact .inl au
    ·refine .inr fun j hj hji hun=>?_
     have h2:=List.all_eq_true.1 h1 j (List.mem_range.2 hj);simp only [Bool.or_eq_true,decide_eq_true_eq,beq_iff_eq,hji,hun,Bool.false_eq_true,or_false]at h2;exact h2
   ·simp only [hk,if_false,beq_iff_eq]at hf;refine⟨fun h0=>(by rw [h0]at hr';cases hr'),fun j hj=>?_⟩
    rw [hf]at hj;have hji:j=i:=by simpa using hj
    subst hji;exact eP (fun a' w' h'=>hrec a' w' h') h
theorem Dx (hs:Region.noSelect ops=true) {i:Nat} {oi:Oper} {f:Nat} {listed:Array Bool} {a:Act} {wc:World} (hcl:Closed md ops listed) (hoi:ops[i]?=some oi) (hk:kd i<=1)
   (hr:(Region.ready md ops listed).contains i=true) (hf:Region.free md ops listed i=true) (hb:(kd i==1||Ro ops md kd listed i)=true)
   (h:qw P ops kd i (AnyX P ops md kd Kf f (listed.setIfInBounds i true)) a wc):AnyX P ops md kd Kf (f+1) listed a wc:=by
 obtain⟨v,hy,hK⟩:=Jt hoi hk h;refine IX hoi (Region.noSelect_spec hs) f listed a wc hcl (Region.free_spec hoi hf) ?_ (by simpa using hr) hy hK
 rcases Bool.or_eq_true _ _▸hb with h1|h1
 ·have:kd i=1:=by simpa using h1
  exact .inl au
 ·refine .inr fun j hj hji hun=>?_
  have h2:=List.all_eq_true.1 h1 j (List.mem_range.2 hj);simp only [Bool.or_eq_true,decide_eq_true_eq,beq_iff_eq,hji,hun,Bool.false_eq_true,or_false]at h2;exact h2
theorem oU {rs:List Nat} {f:Nat} {listed:Array Bool} {a:Act} {wc:World} (hr:Region.ready md ops listed=rs) (hne:rs≠[])
   (h:∀ i∈rs,qw P ops kd i (AnyX P ops md kd Kf f (listed.setIfInBounds i true)) a wc):AnyX P ops md kd Kf (f+1) listed a wc :=
 ⟨fun h0=>absurd (hr▸h0) hne,fun i hi=>h i (hr▸hi)⟩
theorem uY (n:Nat):Closed md ops (Array.replicate n false):=by
 intro j oj _ hl;exfalso;rcases Nat.lt_or_ge j n with h|h
 ·simp [h]at hl
 ·simp [h]at hl
def okX (md:Region.Mode) (ops:Array Oper) (kd:Nat->Nat) (l:List Nat):Bool :=
 Region.noSelect ops&&(l.length==ops.size)&&Ie ops md kd l (Array.replicate ops.size false)
theorem NG {id:Nat} {Q:Exit->Act->World->Prop} {ro:Option Nat} {a:Act} {w:World} (l:List Nat) (kd:Nat->Nat) (hm:P.follows .mixedOrders=true) (hB:okX .any ops kd l=true)
   (h:wpX P ops kd (Q .normal) l a w):(Code.region id ops true).wpIn (FR ro) 0 P Q a w:=by
 simp only [okX,Bool.and_eq_true,beq_iff_eq]at hB;obtain⟨⟨hs,hl⟩,hc⟩:=hB;have h1:=IW hs l (Array.replicate ops.size false) a w (uY _) hc h;rw [hl]at h1;exact wpIn_region_any hm (su (Kf:=Q .normal) (fun _ _ h=>h) _ _ _ _ _ (Ext.drawn w) h1)
theorem AA {id:Nat} {Q:Exit->Act->World->Prop} {ro:Option Nat} {a:Act} {w:World} (kd:Nat->Nat) (hm:P.follows .mixedOrders=true)
   (h:AnyX P ops .any kd (Q .normal) ops.size (Array.replicate ops.size false) a w):(Code.region id ops true).wpIn (FR ro) 0 P Q a w :=
 wpIn_region_any hm (su (Kf:=Q .normal) (fun _ _ h=>h) _ _ _ _ _ (Ext.drawn w) h)
theorem Aj {Q:Exit->Act->World->Prop} {ro:Option Nat} (hQ:∀ a w,Kf a w->Q .normal a w):∀ (l:List Nat) (a:Act) (wc w:World),Ext wc w->wpX P ops kd Kf l a wc->wpOpsIn (FR ro) 0 P ops Q l a w
 |[],_,_,_,hw,h=>by simp only [wpOpsIn];exact hQ _ _ (h _ hw)
 |i::l,a,wc,w,hw,h=>by
   rw [wpOpsIn_cons];exact Dz hw (fun a' wc' w' hw' h'=>Aj hQ l a' wc' w' hw' h') h
theorem Gc {id:Nat} {Q:Exit->Act->World->Prop} {ro:Option Nat} {a:Act} {w:World} (kd:Nat->Nat)
   (h:wpX P ops kd (Q .normal) (List.range ops.size) a w):(Code.region id ops false).wpIn (FR ro) 0 P Q a w :=
 wpIn_region (Aj (Kf:=Q .normal) (fun _ _ h=>h) _ _ _ _ (Ext.refl w) h)
end
def look:List (Nat×Value)->Nat->Option Value
 |[],_=>none
 |(k,v)::r,t=>bif Nat.beq k t then some v else look r t
def eX (env:List (Nat×Value)) (d:Option Tmp) (v:Value):List (Nat×Value) :=
 match d with
 |none=>env
 |some t=>(t,v)::env
structure OK (dl:List Deferred) (a:Act) (env:List (Nat×Value)) (N:Nat):Prop where
 size:a.tmps.size=N
 defers:a.defers=dl
 has:∀ t v,look env t=some v->a.tmps.getD t undef=v
def ev (env:List (Nat×Value)):Operand->Option Value
 |.tmp t=>look env t
 |.const v=>some v
 |.global g=>some (.pointer (some ⟨g,0,none⟩))
 |.func f=>some (.func (.func f) #[] #[])
def evs (env:List (Nat×Value)):List Operand->Option (List Value)
 |[]=>some []
 |x::r=>match ev env x,evs env r with
   |some v,some vs=>some (v::vs)
   |_,_=>none
theorem evs_cons {env:List (Nat×Value)} {x:Operand} {v:Value} {r:List Operand} {vs:List Value} (h:ev env x=some v) (hr:evs env r=some vs):evs env (x::r)=some (v::vs):=by simp only [evs,h,hr]
def kU (env:List (Nat×Value)):List (Nat×Operand)->Option (List (Nat×Value))
 |[]=>some []
 |(i,x)::r=>match ev env x,kU env r with
   |some v,some vs=>some ((i,v)::vs)
   |_,_=>none
theorem Vj {env:List (Nat×Value)} {i:Nat} {x:Operand} {v:Value} {r:List (Nat×Operand)} {vs:List (Nat×Value)} (h:ev env x=some v) (hr:kU env r=some vs):kU env ((i,x)::r)=some ((i,v)::vs):=by simp only [kU,h,hr]
def o7 (d:Option Tmp) (N:Nat):Bool:=match d with|some t=>Nat.blt t N|none=>true
theorem OK.ev {dl:List Deferred} {a:Act} {env:List (Nat×Value)} {N:Nat} (h:OK dl a env N) {x:Operand} {v:Value} (hx:ev env x=some v):a.eval x=v:=by
 cases x with
 |tmp t=>exact h.has t v hx
 |const u=>simp only [XK.ev,Option.some.injEq]at hx;exact hx
 |global g=>simp only [XK.ev,Option.some.injEq]at hx;exact hx
 |func f=>simp only [XK.ev,Option.some.injEq]at hx;exact hx
theorem OK.evs {dl:List Deferred} {a:Act} {env:List (Nat×Value)} {N:Nat} (h:OK dl a env N):∀ {xs:List Operand} {vs:List Value},evs env xs=some vs->xs.map a.eval=vs
 |[],vs,hx=>by simp only [XK.evs,Option.some.injEq]at hx;simpa using hx
 |x::r,vs,hx=>by
   simp only [XK.evs]at hx;split at hx
   ·rename_i v vr h1 h2;simp only [Option.some.injEq]at hx;rw [List.map_cons,h.ev h1,h.evs h2,hx]
   ·cases hx
theorem OK.kU {dl:List Deferred} {a:Act} {env:List (Nat×Value)} {N:Nat} (h:OK dl a env N):∀ {xs:List (Nat×Operand)} {vs:List (Nat×Value)},kU env xs=some vs->(xs.map fun(i,x)=>(i,a.eval x))=vs
 |[],vs,hx=>by simp only [XK.kU,Option.some.injEq]at hx;simpa using hx
 |(i,x)::r,vs,hx=>by
   simp only [XK.kU]at hx;split at hx
   ·rename_i v vr h1 h2;simp only [Option.some.injEq]at hx;rw [List.map_cons,h.kU h2];simp only [h.ev h1];exact hx
   ·cases hx
def WR (a:Act) (env:List (Nat×Value)) (N:Nat):Prop:=∃ dl,OK dl a env N
theorem OK.x {dl:List Deferred} {a:Act} {env:List (Nat×Value)} {N:Nat} (h:OK dl a env N):WR a env N:=⟨dl,h⟩
theorem WR.ev {a:Act} {env:List (Nat×Value)} {N:Nat} (h:WR a env N) {x:Operand} {v:Value} (hx:XK.ev env x=some v):a.eval x=v:=h.elim fun _ h=>h.ev hx
theorem WR.evs {a:Act} {env:List (Nat×Value)} {N:Nat} (h:WR a env N) {xs:List Operand} {vs:List Value} (hx:XK.evs env xs=some vs):xs.map a.eval=vs:=h.elim fun _ h=>h.evs hx
theorem WR.kU {a:Act} {env:List (Nat×Value)} {N:Nat} (h:WR a env N) {xs:List (Nat×Operand)} {vs:List (Nat×Value)} (hx:XK.kU env xs=some vs):(xs.map fun(i,x)=>(i,a.eval x))=vs:=h.elim fun _ h=>h.kU hx
theorem OK.put {dl:List Deferred} {a:Act} {env:List (Nat×Value)} {N:Nat} (h:OK dl a env N) {d:Option Tmp} (hd:o7 d N=true) (v:Value):OK dl (a.put d v) (eX env d v) N:=by
 cases d with
 |none=>exact h
 |some t =>
   have ht:t<a.tmps.size:=by
     rw [h.size];simpa [o7] using hd
   refine⟨by simp [Act.put,h.size],h.defers,fun u x hx=>?_⟩
   simp only [eX,look]at hx
   cases hb:Nat.beq t u with
   |true =>
     have:t=u:=Nat.eq_of_beq_eq_true hb;subst this;simp only [hb,cond_true,Option.some.injEq]at hx;simp [Act.put,ht,hx]
   |false =>
     have hne:t≠u:=fun e=>by subst e;simp at hb
     simp only [hb,cond_false]at hx;have:=h.has u x hx;simp only [Act.put,Array.getD_eq_getD_getElem?,Array.getElem?_setIfInBounds_ne hne]at this ⊢;exact this
def sub (env:List (Nat×Value)):List Nat->Option (List (Nat×Value))
 |[]=>some []
 |t::ts=>match look env t,sub env ts with
   |some v,some r=>some ((t,v)::r)
   |_,_=>none
theorem Oh (env:List (Nat×Value)):∀ (ts:List Nat) (r:List (Nat×Value)),sub env ts=some r->∀ t v,look r t=some v->look env t=some v
 |[],r,h,t,v,hl=>by simp only [sub,Option.some.injEq]at h;subst h;cases hl
 |u::ts,r,h,t,v,hl=>by
   simp only [sub]at h;split at h
   ·rename_i x r' h1 h2;simp only [Option.some.injEq]at h;subst h;simp only [look]at hl
    cases hb:Nat.beq u t with
    |true =>
      have:u=t:=Nat.eq_of_beq_eq_true hb;subst this;simp only [hb,cond_true,Option.some.injEq]at hl;rw [h1,hl]
    |false =>
      simp only [hb,cond_false]at hl;exact Oh env ts r' h2 t v hl
   ·cases h
theorem OK.sub {dl:List Deferred} {a:Act} {env env':List (Nat×Value)} {N:Nat} (h:OK dl a env N) (ts:List Nat) (hs:XK.sub env ts=some env'):OK dl a env' N :=
 ⟨h.size,h.defers,fun t v hl=>h.has t v (Oh env ts env' hs t v hl)⟩
section
variable (P:Program)
def M6 (env:List (Nat×Value)) (wc:World) (o:Oper) (v:Value):Prop:=∀ a N,WR a env N->∀ w,Ext wc w->kD P v w ((execOp a.eval o).run P w)
def gG (env:List (Nat×Value)) (o:Oper) (v:Value):Prop:=∀ a N,WR a env N->∀ w,bf v w ((execOp a.eval o).run P w)
def Stp (env:List (Nat×Value)) (w:World) (o:Oper) (K:Value->World->Prop):Prop:=∀ a N,WR a env N->jJ P K ((execOp a.eval o).run P w)
def EK (dl:List Deferred) (N:Nat) (K:Act->World->Prop) (env:List (Nat×Value)) (wc:World):Prop:=∀ a,OK dl a env N->K a wc
def ER (ops:Array Oper) (kd:Nat->Nat) (Kf:Act->World->Prop) (dl:List Deferred) (N:Nat) (l:List Nat) (env:List (Nat×Value)) (wc:World):Prop:=∀ a,OK dl a env N->wpX P ops kd Kf l a wc
end
section
variable {P:Program} {ops:Array Oper} {kd:Nat->Nat} {Kf K:Act->World->Prop} {dl:List Deferred} {N:Nat} {l:List Nat} {env:List (Nat×Value)} {wc:World} {i:Nat} {o:Oper} {v:Value}
theorem ER.nil (h:∀ w,Ext wc w->∀ a,OK dl a env N->Kf a w):ER P ops kd Kf dl N [] env wc:=fun a ha w hw=>h w hw a ha
theorem ER.sub {env':List (Nat×Value)} (ts:List Nat) (hs:XK.sub env ts=some env') (h:ER P ops kd Kf dl N l env' wc):ER P ops kd Kf dl N l env wc:=fun a ha=>h a (ha.sub ts hs)
theorem EX.ex (ho:ops[i]?=some o) (hg:o.guard=none) (hk:kd i=0) (hd:o7 o.dst N=true) (hv:M6 P env wc o v) (h:EK dl N K (eX env o.dst v) wc):EK dl N (qw P ops kd i K) env wc:=by
 intro a ha;simp only [qw,ho,Region.wanted,hg,if_true,hk,l6];exact⟨v,fun w hw=>hv a N ha.x w hw,h _ (ha.put hd v)⟩
theorem EX.st (ho:ops[i]?=some o) (hg:o.guard=none) (hk:kd i=2) (hd:o7 o.dst N=true)
   (h:∀ w,Ext wc w->Stp P env w o (fun v w'=>Ext w w'/\EK dl N K (eX env o.dst v) w')):EK dl N (qw P ops kd i K) env wc:=by
 intro a ha;simp only [qw,ho,Region.wanted,hg,if_true,hk,l6];exact fun w hw=>iO (fun v w' ⟨q1,q2⟩=>⟨q1,q2 _ (ha.put hd v)⟩) (h w hw a N ha.x)
theorem ER.ex (ho:ops[i]?=some o) (hg:o.guard=none) (hk:kd i=0) (hd:o7 o.dst N=true) (hv:M6 P env wc o v) (h:ER P ops kd Kf dl N l (eX env o.dst v) wc):ER P ops kd Kf dl N (i::l) env wc :=
 EX.ex (K:=wpX P ops kd Kf l) ho hg hk hd hv h
theorem ER.st (ho:ops[i]?=some o) (hg:o.guard=none) (hk:kd i=2) (hd:o7 o.dst N=true)
   (h:∀ w,Ext wc w->Stp P env w o (fun v w'=>Ext w w'/\ER P ops kd Kf dl N l (eX env o.dst v) w')):ER P ops kd Kf dl N (i::l) env wc :=
 EX.st (K:=wpX P ops kd Kf l) ho hg hk hd h
end
section
variable (P:Program)
def EA (ops:Array Oper) (kd:Nat->Nat) (Kf:Act->World->Prop) (dl:List Deferred) (N:Nat) (f:Nat) (listed:Array Bool) (env:List (Nat×Value)) (wc:World):Prop:=Closed .any ops listed->∀ a,OK dl a env N->AnyX P ops .any kd Kf f listed a wc
end
def BX (ops:Array Oper) (kd:Nat->Nat) (listed:Array Bool) (i:Nat):Bool :=
 Region.noSelect ops&&Nat.ble (kd i) 1&&(Region.ready .any ops listed).contains i&&Region.free .any ops listed i&&(kd i==1||Ro ops .any kd listed i)
section
variable {P:Program} {ops:Array Oper} {kd:Nat->Nat} {Kf:Act->World->Prop} {dl:List Deferred} {N f:Nat} {listed:Array Bool} {env:List (Nat×Value)} {wc:World}
theorem EA.take (i:Nat) (hc:BX ops kd listed i=true) (h:Closed .any ops (listed.setIfInBounds i true)->EK dl N (qw P ops kd i (AnyX P ops .any kd Kf f (listed.setIfInBounds i true))) env wc):EA P ops kd Kf dl N (f+1) listed env wc:=by
 intro hcl a ha;simp only [BX,Bool.and_eq_true]at hc;obtain⟨⟨⟨⟨h1,h2⟩,h3⟩,h4⟩,h5⟩:=hc;have hr:i∈Region.ready .any ops listed:=by simpa using h3
 obtain⟨_,oi,hoi,_⟩:=mem_ready.1 hr;exact Dx h1 hcl hoi (by simpa using h2) h3 h4 h5 (h (hcl.set hr) a ha)
theorem EA.two (i j:Nat) (hr:Region.ready .any ops listed=[i,j]) (h1:Closed .any ops (listed.setIfInBounds i true)->EK dl N (qw P ops kd i (AnyX P ops .any kd Kf f (listed.setIfInBounds i true))) env wc)
   (h2:Closed .any ops (listed.setIfInBounds j true)->EK dl N (qw P ops kd j (AnyX P ops .any kd Kf f (listed.setIfInBounds j true))) env wc):EA P ops kd Kf dl N (f+1) listed env wc:=by
 intro hcl a ha;refine oU hr (by simp) fun k hk=>?_
 have hk2:k=i\/k=j:=by simpa using hk
 rcases hk2 with rfl|rfl
 ·exact h1 (hcl.set (by rw [hr];simp)) a ha
 ·exact h2 (hcl.set (by rw [hr];simp)) a ha
theorem EA.nil (hr:Region.ready .any ops listed=[]) (h:∀ w,Ext wc w->∀ a,OK dl a env N->Kf a w):EA P ops kd Kf dl N 0 listed env wc:=fun _ a ha=>⟨hr,fun w hw=>h w hw a ha⟩
theorem EA.back (hc:Closed .any ops listed) (h:EA P ops kd Kf dl N f listed env wc):EK dl N (AnyX P ops .any kd Kf f listed) env wc:=h hc
end
section
variable (P:Program) (ro:Option Nat) (dl:List Deferred)
def EC (c:Code) (Q:Exit->Act->World->Prop) (N:Nat) (env:List (Nat×Value)) (w:World):Prop:=∀ a,OK dl a env N->c.wpIn (FR ro) 0 P Q a w
end
def AQ (dl:List Deferred) (e:Exit) (Q:Exit->Act->World->Prop) (N:Nat) (env:List (Nat×Value)) (w:World):Prop:=∀ a,OK dl a env N->Q e a w
section
variable {P:Program} {ro:Option Nat} {dl:List Deferred} {Q:Exit->Act->World->Prop} {N:Nat} {env:List (Nat×Value)} {w:World}
theorem EC.seq {x y:Code} (h:EC P ro dl x (Exit.then (y.wpIn (FR ro) 0 P Q) Q) N env w):EC P ro dl (.seq x y) Q N env w:=fun a ha=>wpIn_seq (h a ha)
theorem AQ.then {y:Code} (h:EC P ro dl y Q N env w):AQ dl .normal (Exit.then (y.wpIn (FR ro) 0 P Q) Q) N env w:=h
theorem EC.skip (h:AQ dl .normal Q N env w):EC P ro dl .skip Q N env w:=fun a ha=>wpIn_skip (h a ha)
theorem EC.ret (h:AQ dl .ret Q N env w):EC P ro dl .ret Q N env w:=fun a ha=>wpIn_ret (h a ha)
theorem EC.exit {id:Nat} (h:AQ dl (.exit id) Q N env w):EC P ro dl (.exit id) Q N env w:=fun a ha=>wpIn_exit (h a ha)
theorem EC.block {id:Nat} {c:Code} (h:EC P ro dl c (Exit.inBlock id Q) N env w):EC P ro dl (.block id c) Q N env w:=fun a ha=>wpIn_block (h a ha)
theorem EC.cond {c:Operand} {x y:Code} {t:Bool} (hc:ev env c=some (.bool t)) (ht:t=true->EC P ro dl x Q N env w) (hf:t=false->EC P ro dl y Q N env w):EC P ro dl (.cond c x y) Q N env w :=
 fun a ha=>wpIn_cond_split (ha.ev hc) (fun h=>ht h a ha) (fun h=>hf h a ha)
theorem EC.region {id:Nat} {ops:Array Oper} (kd:Nat->Nat) (l:List Nat) (hl:List.range ops.size=l) (h:ER P ops kd (Q .normal) dl N l env w):EC P ro dl (.region id ops false) Q N env w :=
 fun a ha=>Gc kd (by rw [hl];exact h a ha)
theorem EC.sub {env':List (Nat×Value)} {c:Code} (ts:List Nat) (hs:XK.sub env ts=some env') (h:EC P ro dl c Q N env' w):EC P ro dl c Q N env w:=fun a ha=>h a (ha.sub ts hs)
theorem AQ.sub {env':List (Nat×Value)} {e:Exit} (ts:List Nat) (hs:XK.sub env ts=some env') (h:AQ dl e Q N env' w):AQ dl e Q N env w:=fun a ha=>h a (ha.sub ts hs)
theorem EC.loop {σ:Type} {c:Code} (E:σ->List (Nat×Value)) (F:σ->World->Prop) (μ:σ->Nat) (s0:σ) (ts:List Nat) (h0:XK.sub env ts=some (E s0)) (hF:F s0 w)
   (round:∀ s w,F s w->EC P ro dl c (Exit.then (fun a' w'=>∃ s',OK dl a' (E s') N/\F s' w'/\μ s'<μ s) Q) N (E s) w):EC P ro dl (.loop c) Q N env w:=by
 intro a ha b k cs hro hb hr
 have key:∀ n s a1 w,μ s=n->OK dl a1 (E s) N->F s w ->
     ∃ e a' w',Q e a' w'/\ArrivesIn (Machine.fenced P (FR ro)) P (lone (b.atR a1 (.code c :: .inLoop c::k)) cs w) b k cs e a' w':=by
   intro n
   induction n using Nat.strongRecOn with
   |_ n ih =>
     intro s a w hn hO hI;obtain⟨e,a₁,w₁,hq,harr⟩:=round s w hI a hO b (.inLoop c::k) cs hro hb hr
     cases e with
     |normal =>
       obtain⟨s',hO',hI₁,hlt⟩:=hq;obtain⟨e₂,a₂,w₂,hq₂,harr₂⟩:=ih (μ s') (hn▸hlt) s' a₁ w₁ rfl hO' hI₁;exact⟨e₂,a₂,w₂,hq₂,.of_steps (StepsIn.trans harr (.one (fenced_calm hb hr rfl) stepR_inLoop)) harr₂⟩
     |exit id=>exact⟨_,a₁,w₁,hq,.pass (x:=.inLoop c) rfl (fun _ _=>.inl (by simp)) harr⟩
     |goto l=>exact⟨_,a₁,w₁,hq,.pass (x:=.inLoop c) rfl (fun _ _=>.inl (by simp)) harr⟩
     |ret=>exact⟨_,a₁,w₁,hq,.pass (x:=.inLoop c) rfl (fun _ _=>.inl (by simp)) harr⟩
     |panic ch=>exact⟨_,a₁,w₁,hq,.pass (x:=.inLoop c) rfl (fun _ _=>.inl (by simp)) harr⟩
     |outgrown=>exact⟨_,a₁,w₁,hq,.pass (x:=.inLoop c) rfl (fun _ _=>.inl (by simp)) harr⟩
 obtain⟨e,a',w',hq,harr⟩:=key _ s0 a w rfl (ha.sub ts h0) hF;exact⟨e,a',w',hq,.of_steps (.one (fenced_calm hb hr rfl) stepR_loop) harr⟩
theorem AQ.round {σ:Type} {E:σ->List (Nat×Value)} {F:σ->World->Prop} {μ:σ->Nat} {s:σ} (s':σ) (ts:List Nat) (h0:XK.sub env ts=some (E s')) (hF:F s' w) (hm:μ s'<μ s) :
   AQ dl .normal (Exit.then (fun a' w'=>∃ s',OK dl a' (E s') N/\F s' w'/\μ s'<μ s) Q) N env w:=fun _ ha=>⟨s',ha.sub ts h0,hF,hm⟩
end
def Inf (P:Program) (e:TypeId) (z:Value) (size bytes:Nat):Prop:=(P.info? e).map (fun i=>(i.zero,i.size,i.bytes))=some (some z,size,bytes)
theorem Inf.ex {P:Program} {e:TypeId} {z:Value} {size bytes:Nat} (h:Inf P e z size bytes):∃ i,P.info? e=some i/\i.zero=some z/\i.size=size/\i.bytes=bytes:=by
 unfold Inf at h
 cases hi:P.info? e with
 |none=>rw [hi]at h;cases h
 |some i =>
   rw [hi]at h;simp only [Option.map_some,Option.some.injEq,Prod.mk.injEq]at h;exact⟨i,rfl,h.1,h.2.1,h.2.2⟩
def Flat (P:Program) (t:TypeId):Prop:=(match P.underlying t with|some (.struct _)|some (.array _ _)|none=>false|_=>true)=true
def RG (P:Program) (t:TypeId) (size:Nat):Prop:=(match P.underlying t with|some (.struct _)|some (.array _ _)=>(P.info? t).map (·.size)|_=>none)=some size
section
variable {P:Program} {env:List (Nat×Value)} {wc:World} {d:Option Tmp} {ty:TypeId} {pos:String} {af:Array Edge} {g:Option (Nat×Bool)}
theorem gG.move {x:Operand} {v:Value} (h:ev env x=some v):gG P env ⟨d,.move x,ty,pos,af,g⟩ v:=fun a N ha w=>by
 simp only [execOp,Sem.run_pure,ha.ev h];exact⟨rfl,rfl⟩
theorem gG.assign {x:Operand} {v:Value} (h:ev env x=some v):gG P env ⟨d,.assign x,ty,pos,af,g⟩ v:=fun a N ha w=>by
 simp only [execOp,Sem.run_pure,ha.ev h];exact⟨rfl,rfl⟩
theorem gG.pick {c x y:Operand} {b:Bool} {u v:Value} (hc:ev env c=some (.bool b)) (hx:ev env x=some u) (hy:ev env y=some v):gG P env ⟨d,.pick c x y,ty,pos,af,g⟩ (bif b then u else v):=fun a N ha w=>by
 cases b<;>simp [execOp,ha.ev hc,ha.ev hx,ha.ev hy,asBool,bf]
theorem gG.not {t:TypeId} {x:Operand} {b:Bool} (h:ev env x=some (.bool b)):gG P env ⟨d,.unOp .not t x,ty,pos,af,g⟩ (.bool !b):=fun a N ha w=>by
 simp [execOp,ha.ev h,Op.unary,bf]
theorem gG.extract {x:Operand} {i:Nat} {vs:Array Value} {v:Value} (h:ev env x=some (.tuple vs)) (hi:vs[i]?=some v):gG P env ⟨d,.extract x i,ty,pos,af,g⟩ v:=fun a N ha w=>by
 simp [execOp,ha.ev h,Instr.extract,hi,bf]
theorem gG.beql {t t':TypeId} {x y:Operand} {p q:Bool} (ht:P.underlying t=some .bool) (hx:ev env x=some (.bool p)) (hy:ev env y=some (.bool q)):gG P env ⟨d,.binOp .eql t x y t',ty,pos,af,g⟩ (.bool (p==q)):=fun a N ha w=>by
 simp [execOp,ha.ev hx,ha.ev hy,eqGuard_at_bool,run_eql_bool w t p q ht,bf]
theorem gG.bneq {t t':TypeId} {x y:Operand} {p q:Bool} (ht:P.underlying t=some .bool) (hx:ev env x=some (.bool p)) (hy:ev env y=some (.bool q)):gG P env ⟨d,.binOp .neq t x y t',ty,pos,af,g⟩ (.bool (p != q)):=fun a N ha w=>by
 have:binOp .neq t (.bool p) (.bool q)=(do pure (.bool !(<- Op.equal t (.bool p) (.bool q)))):=rfl
 simp [execOp,ha.ev hx,ha.ev hy,eqGuard_at_bool,this,run_equal_bool w t p q ht,bf,bne]
section
variable {T T':TypeId} {x y:Operand} {k:IntKind} {m n:Int} (hx:ev env x=some (.int k m)) (hy:ev env y=some (.int k n))
include hx hy
theorem gG.lss:gG P env ⟨d,.binOp .lss T x y T',ty,pos,af,g⟩ (.bool (decide (m<n))):=fun a N ha w=>by simp only [execOp,ha.ev hx,ha.ev hy];simp [go_sem,bf]
theorem gG.leq:gG P env ⟨d,.binOp .leq T x y T',ty,pos,af,g⟩ (.bool (decide (m<=n))):=fun a N ha w=>by simp only [execOp,ha.ev hx,ha.ev hy];simp [go_sem,bf]
theorem gG.gtr:gG P env ⟨d,.binOp .gtr T x y T',ty,pos,af,g⟩ (.bool (decide (n<m))):=fun a N ha w=>by simp only [execOp,ha.ev hx,ha.ev hy];simp [go_sem,bf]
theorem gG.geq:gG P env ⟨d,.binOp .geq T x y T',ty,pos,af,g⟩ (.bool (decide (n<=m))):=fun a N ha w=>by simp only [execOp,ha.ev hx,ha.ev hy];simp [go_sem,bf]
theorem gG.eql:gG P env ⟨d,.binOp .eql T x y T',ty,pos,af,g⟩ (.bool (m==n)):=fun a N ha w=>by simp only [execOp,ha.ev hx,ha.ev hy,eqGuard_at_int];simp [bf,binOp,Op.intCmp]
theorem gG.neq:gG P env ⟨d,.binOp .neq T x y T',ty,pos,af,g⟩ (.bool (m != n)):=fun a N ha w=>by simp only [execOp,ha.ev hx,ha.ev hy,eqGuard_at_int];simp [bf,binOp,Op.intCmp]
theorem gG.add:gG P env ⟨d,.binOp .add T x y T',ty,pos,af,g⟩ (.int k (k.wrap (m+n))):=fun a N ha w=>by simp [execOp,ha.ev hx,ha.ev hy,eqGuard_add,binOp,Op.intArith,bf]
theorem gG.sub:gG P env ⟨d,.binOp .sub T x y T',ty,pos,af,g⟩ (.int k (k.wrap (m-n))):=fun a N ha w=>by simp [execOp,ha.ev hx,ha.ev hy,eqGuard_sub,binOp,Op.intArith,bf]
theorem gG.mul:gG P env ⟨d,.binOp .mul T x y T',ty,pos,af,g⟩ (.int k (k.wrap (m*n))):=fun a N ha w=>by simp [execOp,ha.ev hx,ha.ev hy,eqGuard_mul,binOp,Op.intArith,bf]
theorem gG.quo (h0:n≠0):gG P env ⟨d,.binOp .quo T x y T',ty,pos,af,g⟩ (.int k (k.wrap (m.tdiv n))):=fun a N ha w=>by simp [execOp,ha.ev hx,ha.ev hy,eqGuard_quo,binOp,Op.intDiv,bf,h0]
theorem gG.rem (h0:n≠0):gG P env ⟨d,.binOp .rem T x y T',ty,pos,af,g⟩ (.int k (m.tmod n)):=fun a N ha w=>by simp [execOp,ha.ev hx,ha.ev hy,eqGuard_rem,binOp,Op.intDiv,bf,h0]
end
theorem gG.min {x y:Operand} {ts:Array TypeId} {k:IntKind} {m n:Int} (hx:ev env x=some (.int k m)) (hy:ev env y=some (.int k n)):gG P env ⟨d,.call ⟨.builtin .min,#[x,y],ts⟩,ty,pos,af,g⟩ (.int k (Min.min m n)):=fun a N ha w=>by
 simp [execOp,resolve,invoke,builtin,ha.ev hx,ha.ev hy,Builtin.min_,Builtin.min2,bf];split<;>omega
theorem gG.max {x y:Operand} {ts:Array TypeId} {k:IntKind} {m n:Int} (hx:ev env x=some (.int k m)) (hy:ev env y=some (.int k n)):gG P env ⟨d,.call ⟨.builtin .max,#[x,y],ts⟩,ty,pos,af,g⟩ (.int k (Max.max m n)):=fun a N ha w=>by
 simp [execOp,resolve,invoke,builtin,ha.ev hx,ha.ev hy,Builtin.max_,Builtin.max2,bf];split<;>omega
theorem gG.len {x:Operand} {t e:TypeId} {b:Option Addr} {n c:Nat} (ht:P.underlying t=some (.slice e)) (hx:ev env x=some (.slice b n c)):gG P env ⟨d,.call ⟨.builtin .len,#[x],#[t]⟩,ty,pos,af,g⟩ (.int .i64 n):=fun a N ha w=>by
 simp [execOp,resolve,invoke,builtin,ha.ev hx,Builtin.len_,run_underlying ht,bf,goInt]
theorem gG.fieldAddr {x:Operand} {t:TypeId} {i:Nat} {b o:Nat} {fs:Array Field} {f:Field} {z:Value} {size bytes:Nat} (ht:P.underlying t=some (.struct fs)) (hf:fs[i]?=some f) (hi:Inf P f.type z (size+1) bytes)
   (hx:ev env x=some (.pointer (some ⟨b,o,none⟩))):gG P env ⟨d,.fieldAddr t x i,ty,pos,af,g⟩ (.pointer (some ⟨b,o+f.offset,none⟩)):=fun a N ha w=>by
 obtain⟨inf,h1,h2,h3,h4⟩:=hi.ex;simp [execOp,ha.ev hx,Instr.fieldAt,run_underlying ht,hf,Instr.sureAddr,fieldPlace,sizeOf,typeInfo,h1,h3,bf,Addr.add_mid]
theorem gG.indexAddr {x y:Operand} {t e:TypeId} {b o n c:Nat} {k:IntKind} {i:Int} {z:Value} {size bytes:Nat} (ht:P.underlying t=some (.slice e)) (hi:Inf P e z size bytes)
   (hx:ev env x=some (.slice (some ⟨b,o,none⟩) n c)) (hy:ev env y=some (.int k i)) (h0:0<=i) (h1:i<n):gG P env ⟨d,.indexAddr t x y,ty,pos,af,g⟩ (.pointer (some ⟨b,o+i.toNat * size,none⟩)):=fun a N ha w=>by
 obtain⟨inf,h2,h3,h4,h5⟩:=hi.ex;simp [execOp,ha.ev hx,ha.ev hy,Instr.indexAt,asIntOf,run_underlying ht,h0,h1,sizeOf,typeInfo,h2,h4,bf,Addr.add_mid]
theorem gG.makeFunc {fn:Fn} {first captured:Array Operand} {u v:List Value} (h1:evs env first.toList=some u) (h2:evs env captured.toList=some v):gG P env ⟨d,.makeFunc fn first captured,ty,pos,af,g⟩ (.func fn u.toArray v.toArray):=fun a N ha w=>by
 have e1:first.map a.eval=u.toArray:=Array.ext' (by simpa using ha.evs h1)
 have e2:captured.map a.eval=v.toArray:=Array.ext' (by simpa using ha.evs h2)
 simp only [execOp,Instr.makeFunc,e1,e2,Sem.run_bind,Sem.run_pure,Result.andThen_ok];exact⟨rfl,rfl⟩
theorem gG.eqlNil {x y:Operand} {t t' e:TypeId} {b:Option Addr} {n c:Nat} (ht:P.underlying t=some (.slice e)) (hx:ev env x=some (.slice b n c)) (hy:ev env y=some (.slice none 0 0)) :
   gG P env ⟨d,.binOp .eql t x y t',ty,pos,af,g⟩ (.bool b.isNone):=fun a N ha w=>by
 have:=Lib.run_eql_slice_nil w t e b n c 0 0 ht;simp only [execOp,ha.ev hx,ha.ev hy,Sem.run_bind,eqGuard_at_slice,Sem.run_pure,Result.andThen_ok,this];exact⟨rfl,rfl⟩
theorem gG.build {t:TypeId} {parts:Array (Nat×Operand)} {vs:List (Nat×Value)} {cells:Array Value} (hv:kU env parts.toList=some vs) (h:P.built t vs=some cells) :
   gG P env ⟨d,.build t parts,ty,pos,af,g⟩ (.agg cells):=fun a N ha w=>by
 have hh:=run_build w t (parts.map fun(i,x)=>(i,a.eval x)) cells (by rw [Array.toList_map,ha.kU hv];exact h)
 simp only [execOp,Sem.run_bind,hh,Result.andThen_ok,Sem.run_pure];exact⟨rfl,rfl⟩
def At (w:World) (b o:Nat) (vs:List Value):Prop:=∀ j v,vs[j]?=some v->w.cell? ⟨b,o+j,none⟩=some v
theorem OZ {w w':World} (h:Ext w w') {a:Addr} {v:Value} (hc:w.cell? a=some v):w'.cell? a=some v:=by
 rw [Below.cell h (World.block_lt_of_cell? w a hc)];exact hc
theorem At.ext {w w':World} {b o:Nat} {vs:List Value} (h:At w b o vs) (he:Ext w w'):At w' b o vs:=fun j v hj=>OZ he (h j v hj)
theorem M6.load {x:Operand} {t:TypeId} {b o:Nat} {v:Value} (ht:Flat P t) (hx:ev env x=some (.pointer (some ⟨b,o,none⟩))) (hc:wc.cell? ⟨b,o,none⟩=some v):M6 P env wc ⟨d,.load t x,ty,pos,af,g⟩ v:=fun a N ha w hw=>by
 have hc':=OZ hw hc;unfold Flat at ht
 have hagg:(isAgg t).run P w=.ok false w:=by
   cases hu:P.underlying t with
   |none=>rw [hu]at ht;cases ht
   |some D =>
     rw [hu]at ht;cases D<;>first|(cases ht;done)|simp [isAgg,run_underlying hu]
 simp [execOp,ha.ev hx,Instr.loadAt,Instr.sureAddr,loadVar,hagg,hc'];exact⟨rfl,Ext.refl _⟩
theorem nS (w:World) (b o:Nat) (vs:List Value) (h:At w b o vs):(loadCells ⟨b,o,none⟩ vs.length).run P w=.ok vs.toArray w:=by
 have key:∀ (n i:Nat) (acc:Array Value),i+n=vs.length->(loadCellsFrom ⟨b,o,none⟩ i n acc).run P w=.ok (acc++(vs.drop i).toArray) w:=by
   intro n
   induction n with
   |zero=>intro i acc hi;simp [loadCellsFrom,List.drop_of_length_le (show vs.length<=i by omega)]
   |succ n ih =>
     intro i acc hi;have hlt:i<vs.length:=by omega
     have hc:=h i _ (bZ hlt);simp only [loadCellsFrom,Sem.run_bind,Addr.add_mid];rw [show(load ⟨b,o+i,none⟩).run P w=.ok vs[i] w from by simp [load,Sem.run,hc]]
     simp only [Result.andThen_ok];rw [ih (i+1) _ au,List.drop_eq_getElem_cons hlt]
     simp
 have:=key vs.length 0 #[] au
 simpa [loadCells] using this
theorem M6.Mq {x:Operand} {t:TypeId} {b o:Nat} {vs:List Value} (ht:RG P t vs.length) (hx:ev env x=some (.pointer (some ⟨b,o,none⟩))) (hc:At wc b o vs):M6 P env wc ⟨d,.load t x,ty,pos,af,g⟩ (.agg vs.toArray):=fun a N ha w hw=>by
 have hc':=hc.ext hw;have hr:=nS (P:=P) w b o vs hc';unfold RG at ht
 have hagg:(isAgg t).run P w=.ok true w/\(sizeOf t).run P w=.ok vs.length w:=by
   cases hu:P.underlying t with
   |none=>rw [hu]at ht;cases ht
   |some D =>
     rw [hu]at ht
     cases hi:P.info? t with
     |none=>rw [hi]at ht;cases D<;>cases ht
     |some i=>rw [hi]at ht;cases D<;>first|(cases ht;done)|(simp at ht;simp [isAgg,run_underlying hu,sizeOf,typeInfo,hi,ht])
 simp [execOp,ha.ev hx,Instr.loadAt,Instr.sureAddr,loadVar,hagg.1,hagg.2,hr];exact⟨rfl,Ext.refl _⟩
def Row (w:World) (b:Nat) (T:TypeId) (vs:List Value):Prop:=w.heap[b]?=some (.cells vs.toArray T (0,0))
theorem Row.lt {w:World} {b:Nat} {T:TypeId} {vs:List Value} (h:Row w b T vs):b<w.heap.size:=(Array.getElem?_eq_some_iff.1 h).1
theorem Row.ext {w w':World} {b:Nat} {T:TypeId} {vs:List Value} (h:Row w b T vs) (he:Ext w w'):Row w' b T vs:=(he.block b h.lt).trans h
theorem Row.cell {w:World} {b:Nat} {T:TypeId} {vs:List Value} (h:Row w b T vs) {j:Nat} {v:Value} (hj:vs[j]?=some v):w.cell? ⟨b,j,none⟩=some v:=by
 unfold Row at h;simp [World.cell?,h,hj]
theorem Row.at {w:World} {b:Nat} {T:TypeId} {vs:List Value} (h:Row w b T vs):At w b 0 vs:=fun j v hj=>by rw [Nat.zero_add];exact h.cell hj
theorem Row.new (w:World) (T:TypeId) (vs:List Value):Row (w.alloc (.cells vs.toArray T)) w.heap.size T vs:=heap_alloc_new w _
theorem Ext.alloc (w:World) (o:Obj):Ext w (w.alloc o):=(Below.refl _ _).alloc (Nat.le_refl _) o
theorem Stp.alloc {w:World} {T:TypeId} {z:Value} {size bytes:Nat} {K:Value->World->Prop} (hi:Inf P T z size bytes) (h:∀ w',Ext w w'->w'.heap.size=w.heap.size+1->Row w' w.heap.size T z.cells.toList->K (.pointer (some ⟨w.heap.size,0,none⟩)) w'):Stp P env w ⟨d,.alloc T,ty,pos,af,g⟩ K:=fun a N ha=>by
 obtain⟨inf,h1,h2,_,_⟩:=hi.ex;have hk:=h (w.alloc (.cells z.cells T)) (Ext.alloc w _) (by simp) (by have:=Row.new w T z.cells.toList;simpa using this)
 simp [execOp,Instr.alloc,zeroValue,typeInfo,h1,h2,newVar,newRow,jJ];exact hk
theorem Stp.box {w:World} {T:TypeId} {x:Operand} {v:Value} {K:Value->World->Prop} (hx:ev env x=some v) (h:∀ w',Ext w w'->w'.heap.size=w.heap.size+1->Row w' w.heap.size T v.cells.toList->K (.pointer (some ⟨w.heap.size,0,none⟩)) w'):Stp P env w ⟨d,.box T x,ty,pos,af,g⟩ K:=fun a N ha=>by
 have hk:=h (w.alloc (.cells v.cells T)) (Ext.alloc w _) (by simp) (by have:=Row.new w T v.cells.toList;simpa using this)
 simp [execOp,Instr.box,ha.ev hx,newVar,newRow,jJ];exact hk
structure Bu (b:Nat) (w w':World):Prop where
 os:w'.os=w.os
 tape:w'.tape=w.tape
 output:w'.output=w.output
 size:w'.heap.size=w.heap.size
 block:∀ k,k≠b->w'.heap[k]?=w.heap[k]?
theorem Bu.below {b B:Nat} {w w':World} (h:Bu b w w') (hB:B<=b):Below B w w':=⟨h.os,h.tape,h.output,Nat.le_of_eq h.size.symm,fun k hk=>h.block k au⟩
theorem Bu.row {b b':Nat} {w w':World} {T:TypeId} {vs:List Value} (h:Bu b w w') (hr:Row w b' T vs) (hne:b'≠b):Row w' b' T vs:=(h.block b' hne).trans hr
theorem Bu.cell {b:Nat} {w w':World} (h:Bu b w w') {a:Addr} (hne:a.block≠b):w'.cell? a=w.cell? a:=World.cell?_of_block (h.block a.block hne)
theorem Bu.at {b b' o:Nat} {w w':World} {vs:List Value} (h:Bu b w w') (hr:At w b' o vs) (hne:b'≠b):At w' b' o vs:=fun j v hj=>by rw [h.cell (by exact hne)];exact hr j v hj
theorem Ext.upd {k:Nat} {a b c:World} (h:Ext a b) (u:Bu k b c) (hk:a.heap.size<=k):Ext a c:=Below.trans h (u.below hk)
theorem Ext.size {a b:World} (h:Ext a b):a.heap.size<=b.heap.size:=Below.size h
theorem uG (w:World) (b:Nat) (cs:Array Value):Bu b w (w.setRow b cs):=⟨rfl,rfl,rfl,by simp [World.setRow],fun k hk=>setRow_other w b k cs (fun e=>hk e)⟩
theorem Stp.store {w:World} {T T':TypeId} {x y:Operand} {b:Nat} {v:Value} {old:List Value} {K:Value->World->Prop} (hs:(P.info? T).map (·.size)=some v.cells.size) (hx:ev env x=some (.pointer (some ⟨b,0,none⟩))) (hy:ev env y=some v)
   (hr:Row w b T' old) (hl:old.length=v.cells.size) (h1:v.cells.toList.all (·.oneCell')=true) (h:∀ w',Bu b w w'->Row w' b T' v.cells.toList->K undef w'):Stp P env w ⟨d,.store T x y,ty,pos,af,g⟩ K:=fun a N ha=>by
 have hst:=run_storeCells_from (P:=P) b T' v.cells.toList 0 old.toArray w hr (by simp;omega) (fun u hu=>List.all_eq_true.1 h1 u hu)
 cases hi:P.info? T with
 |none=>rw [hi]at hs;cases hs
 |some inf =>
   rw [hi]at hs;simp only [Option.map_some,Option.some.injEq]at hs
   have hrun:(storeVar T ⟨b,0,none⟩ v).run P w=.ok () (w.setRow b v.cells):=by
     simp only [storeVar,Sem.run_bind,sizeOf,typeInfo];simp only [List.take_zero,List.nil_append]at hst;simp [hi,hs,hst]
   simp only [execOp,ha.ev hx,ha.ev hy,Instr.storeAt,Instr.sureAddr,Sem.run_bind,Sem.run_pure,Result.andThen_ok,hrun];exact h _ (uG w b _) (by have:=setRow_heap w b old.toArray v.cells T' (0,0) hr;unfold Row;simpa using this)
theorem Ext.grownBy {w w':World} (h:Ext w w') (row:Option Nat):w.grownBy w' row:=⟨h.os,h.tape,h.output,h.size,fun k hk _=>h.block k hk⟩
theorem Ext.grown {a b c:World} {row:Option Nat} (h:Ext a b) (hg:b.grownBy c row) (hr:∀ k,row=some k->a.heap.size<=k):Ext a c:=Below.grown h hg h.size hr
theorem Ext.own {w w':World} {base:Nat} {e:TypeId} {size n:Nat} {v:Value} {xs:List Value} (h:w.ownsRow base e size v n xs) (he:Ext w w'):w'.ownsRow base e size v n xs :=
 h.kept (he.grownBy none) (by cases v.ownBlock<;>simp)
theorem Bu.own {b:Nat} {w w':World} {base:Nat} {e:TypeId} {size n:Nat} {v:Value} {xs:List Value} (u:Bu b w w') (h:w.ownsRow base e size v n xs) (hb:b<base):w'.ownsRow base e size v n xs:=by
 refine⟨h.1,?_⟩;rcases h.2 with h2|⟨g,cap,cur,hv,hg,hh,r⟩
 ·exact .inl h2
 ·exact .inr ⟨g,cap,cur,hv,hg,by rw [u.block g au];exact hh,r⟩
theorem Row.grown {w w':World} {b:Nat} {T:TypeId} {vs:List Value} {row:Option Nat} (h:Row w b T vs) (hg:w.grownBy w' row) (hne:some b≠row):Row w' b T vs:=(hg.block b h.lt hne).trans h
structure Mod (S:Nat->Prop) (w w':World):Prop where
 os:w'.os=w.os
 tape:w'.tape=w.tape
 output:w'.output=w.output
 size:w.heap.size<=w'.heap.size
 block:∀ k,k<w.heap.size->¬ S k->w'.heap[k]?=w.heap[k]?
theorem Ext.mod {w w':World} (h:Ext w w') (S:Nat->Prop):Mod S w w':=⟨h.os,h.tape,h.output,h.size,fun k hk _=>h.block k hk⟩
theorem Bu.mod {b:Nat} {w w':World} (h:Bu b w w') {S:Nat->Prop} (hs:S b):Mod S w w':=⟨h.os,h.tape,h.output,Nat.le_of_eq h.size.symm,fun k _ hn=>h.block k (fun e=>hn (e▸hs))⟩
theorem Mod.wL {w w':World} {row:Option Nat} (h:w.grownBy w' row) {S:Nat->Prop} (hs:∀ k,row=some k->S k):Mod S w w':=⟨h.os,h.tape,h.output,h.size,fun k hk hn=>h.block k hk (fun e=>hn (hs k e.symm))⟩
theorem Mod.trans {S:Nat->Prop} {a b c:World} (h:Mod S a b) (k:Mod S b c):Mod S a c :=
 ⟨k.os.trans h.os,k.tape.trans h.tape,k.output.trans h.output,Nat.le_trans h.size k.size,fun i hi hn=>(k.block i (Nat.lt_of_lt_of_le hi h.size) hn).trans (h.block i hi hn)⟩
theorem Mod.mono {S T:Nat->Prop} {a b:World} (h:Mod S a b) (hs:∀ k,k<a.heap.size->S k->T k):Mod T a b:=⟨h.os,h.tape,h.output,h.size,fun k hk hn=>h.block k hk (fun e=>hn (hs k hk e))⟩
theorem Ext.modify {S:Nat->Prop} {a b c:World} (h:Ext a b) (m:Mod S b c) (hs:∀ k,S k->a.heap.size<=k):Ext a c :=
 ⟨m.os.trans h.os,m.tape.trans h.tape,m.output.trans h.output,Nat.le_trans h.size m.size,fun k hk=>(m.block k (Nat.lt_of_lt_of_le hk h.size) (fun e=>by have:=hs k e;omega)).trans (h.block k hk)⟩
theorem Mod.row {S:Nat->Prop} {w w':World} {b:Nat} {T:TypeId} {vs:List Value} (m:Mod S w w') (h:Row w b T vs) (hn:¬ S b):Row w' b T vs:=(m.block b h.lt hn).trans h
theorem Mod.own {S:Nat->Prop} {w w':World} {base:Nat} {e:TypeId} {size n:Nat} {v:Value} {xs:List Value} (m:Mod S w w') (h:w.ownsRow base e size v n xs) (hn:∀ k,v.ownBlock=some k->¬ S k):w'.ownsRow base e size v n xs:=by
 refine⟨h.1,?_⟩;rcases h.2 with h2|⟨g,cap,cur,hv,hg,hh,r⟩
 ·exact .inl h2
 ·exact .inr ⟨g,cap,cur,hv,hg,by rw [m.block g (Array.getElem?_eq_some_iff.1 hh).1 (hn g (by rw [hv];rfl))];exact hh,r⟩
def dA (P:Program) (f:FuncId):Prop:=(match P.funcs[f]? with|some fn=>!(fn.name == "runtime.NumGoroutine")&&fn.body.isSome|none=>false)=true
theorem sF {a:Act} {N:Nat} (ha:WR a env N) {c:Operand} {args:Array Operand} {f:FuncId} {first captured:Array Value} {ts:Array TypeId} {vs:List Value} (hf:dA P f)
   (hc:ev env c=some (.func (.func f) first captured)) (hv:evs env args.toList=some vs) (w:World) :
   (execOp a.eval ⟨d,.call ⟨.value c,args,ts⟩,ty,pos,af,g⟩).run P w=.ok (.enter f (first++vs.toArray++captured)) w:=by
 have e1:args.map a.eval=vs.toArray:=Array.ext' (by simpa using ha.evs hv)
 unfold dA at hf
 cases hfn:P.funcs[f]? with
 |none=>rw [hfn]at hf;cases hf
 |some fn =>
   rw [hfn]at hf;simp only [Bool.and_eq_true,Bool.not_eq_true']at hf;obtain⟨h1,h2⟩:=hf;have h3:fn.body≠none:=by intro e;rw [e]at h2;cases h2
   have h4:fn.name ≠ "runtime.NumGoroutine" := by simpa using h1
   simp only [execOp,resolve,e1,ha.ev hc,Deferred.ofValue,invoke,callFunc,Sem.run_bind,Sem.run_pure,Result.andThen_ok];simp [hfn,h3,h4]
theorem M6.call {c:Operand} {args:Array Operand} {f:FuncId} {ts:Array TypeId} {vs:List Value} {v:Value} (hf:dA P f) (hc:ev env c=some (.func (.func f) #[] #[])) (hv:evs env args.toList=some vs)
   (h:∀ w,Ext wc w->Calls P f vs.toArray w (fun e w'=>e=.returned v/\Ext w w')):M6 P env wc ⟨d,.call ⟨.value c,args,ts⟩,ty,pos,af,g⟩ v:=fun a N ha w hw=>by
 have hr:=sF (P:=P) (d:=d) (ty:=ty) (pos:=pos) (af:=af) (g:=g) (ts:=ts) ha hf hc hv w;rw [hr];exact⟨rfl,by simpa using h w hw⟩
theorem Stp.call {w:World} {c:Operand} {args:Array Operand} {f:FuncId} {ts:Array TypeId} {vs:List Value} {K:Value->World->Prop} (hf:dA P f) (hc:ev env c=some (.func (.func f) #[] #[])) (hv:evs env args.toList=some vs)
   (h:Calls P f vs.toArray w (fun e w'=>∃ v,e=.returned v/\K v w')):Stp P env w ⟨d,.call ⟨.value c,args,ts⟩,ty,pos,af,g⟩ K:=fun a N ha=>by
 have hr:=sF (P:=P) (d:=d) (ty:=ty) (pos:=pos) (af:=af) (g:=g) (ts:=ts) ha hf hc hv w;rw [hr];simpa [jJ] using h
def Reads (w:World) (size:Nat) (v:Value) (n:Nat) (cs:List Value):Prop :=
 cs.length=n*size/\(((∃ a,v=.slice a 0 0)/\n=0)\/∃ b o c,v=.slice (some ⟨b,o,none⟩) n c/\n<=c/\c<=maxLen/\At w b o cs)
theorem Reads.ext {w w':World} {size n:Nat} {v:Value} {cs:List Value} (h:Reads w size v n cs) (he:Ext w w'):Reads w' size v n cs :=
 ⟨h.1,h.2.imp id fun⟨b,o,c,h1,h2,hm,h3⟩=>⟨b,o,c,h1,h2,hm,h3.ext he⟩⟩
theorem Reads.LW {w:World} {base:Nat} {e:TypeId} {size n:Nat} {v:Value} {cs:List Value} (h:w.ownsRow base e size v n cs):Reads w size v n cs:=by
 refine⟨h.1,?_⟩;rcases h.2 with h2|⟨b,c,cur,hv,_,_,hn,hm,_,_⟩
 ·exact .inl ⟨⟨_,h2.1⟩,h2.2⟩
 ·refine .inr ⟨b,0,c,hv,hn,hm,fun j u hj=>?_⟩
  have:=h.cells (g:=b) (by rw [hv];rfl) j u hj
  rwa [Addr.add_mid]at this
theorem Reads.len {w:World} {size n:Nat} {v:Value} {cs:List Value} (h:Reads w size v n cs):∃ b c,v=.slice b n c/\n<=c/\c<=maxLen:=by
 rcases h.2 with ⟨⟨a,hv⟩,hn⟩|⟨b,o,c,hv,hn,hm,_⟩
 ·exact⟨a,0,by rw [hv,hn],au,au⟩
 ·exact⟨_,c,hv,hn,hm⟩
theorem Reads.has {w:World} {size n:Nat} {v:Value} {cs:List Value} (h:Reads w size v n cs) (hn:0<n):∃ b o c,v=.slice (some ⟨b,o,none⟩) n c/\n<=c/\c<=maxLen/\At w b o cs:=by
 rcases h.2 with ⟨_,h0⟩|h
 ·omega
 ·exact h
theorem Reads.of_row {w:World} {size n b:Nat} {T:TypeId} {vs:List Value} (h:Row w b T vs) (hl:vs.length=n*size) (hn:n<=maxLen):Reads w size (.slice (some ⟨b,0,none⟩) n n) n vs :=
 ⟨hl,.inr ⟨b,0,n,rfl,Nat.le_refl _,hn,h.at⟩⟩
theorem Reads.drop {w:World} {size n c i:Nat} {a:Option Addr} {cs:List Value} (h:Reads w size (.slice a n c) n cs) (hi:i<=n) :
   Reads w size (.slice (if c=i then a else a.map (·.add (i*size))) (n-i) (c-i)) (n-i) (cs.drop (i*size)):=by
 have hlen:(cs.drop (i*size)).length=(n-i)*size:=by rw [List.length_drop,h.1,<- Nat.sub_mul]
 refine⟨hlen,?_⟩;rcases h.2 with ⟨⟨a',hv⟩,hn⟩|⟨b,o,c',hv,hnc,hcm,hat⟩
 ·injection hv with e1 e2 e3
  subst e1 e2 e3;have:i=0:=by omega
  subst this;exact .inl ⟨⟨a,by simp⟩,au⟩
 ·injection hv with e1 _ e3
  subst e1 e3
  by_cases hc:c=i
  ·subst hc;have hnn:n=c:=by omega
   subst hnn;refine .inr ⟨b,o,0,by simp,au,au,fun j v hj=>?_⟩
   rw [List.getElem?_eq_none (by rw [hlen];simp)]at hj
   cases hj
  ·refine .inr ⟨b,o+i*size,c-i,by simp [hc,Addr.add_mid],au,au,fun j v hj=>?_⟩
   rw [List.getElem?_drop]at hj;rw [Nat.add_assoc];exact hat _ _ hj
theorem Reads.take {w:World} {size n c i:Nat} {a:Option Addr} {cs:List Value} (h:Reads w size (.slice a n c) n cs) (hi:i<=n):Reads w size (.slice a i c) i (cs.take (i*size)):=by
 refine⟨by rw [List.length_take,h.1];exact Nat.min_eq_left (Nat.mul_le_mul_right _ hi),?_⟩
 rcases h.2 with ⟨⟨a',hv⟩,hn⟩|⟨b,o,c',hv,hnc,hcm,hat⟩
 ·injection hv with e1 e2 e3
  subst e1 e2 e3;have:i=0:=by omega
  subst this;exact .inl ⟨⟨_,rfl⟩,rfl⟩
 ·injection hv with e1 _ e3
  subst e1 e3;refine .inr ⟨b,o,c,rfl,au,hcm,fun j v hj=>?_⟩
  rw [List.getElem?_take]at hj;split at hj
  ·exact hat _ _ hj
  ·cases hj
theorem At.sub {w:World} {b o:Nat} {cs:List Value} (h:At w b o cs) (k:Nat) (vs:List Value) (hv:∀ j v,vs[j]?=some v->cs[k+j]?=some v):At w b (o+k) vs:=fun j v hj=>by
 rw [Nat.add_assoc];exact h _ _ (hv j v hj)
def blk:Value->Nat | .slice (some a) _ _=>a.block|_=>0
def ofs:Value->Nat | .slice (some a) _ _=>a.off|_=>0
def Nu (v:Value) (i:Nat):Value:=match v with | .slice a _ c=>.slice a i c|_=>v
def H6 (size:Nat) (v:Value) (i:Nat):Value:=match v with | .slice a n c=>.slice (if c=i then a else a.map (·.add (i*size))) (n-i) (c-i)|_=>v
theorem Reads.max {w:World} {size n:Nat} {v:Value} {cs:List Value} (h:Reads w size v n cs):n<=maxLen:=by
 obtain⟨b,c,_,h2,h3⟩:=h.len;exact Nat.le_trans h2 h3
theorem Reads.atB {w:World} {size n:Nat} {v:Value} {cs:List Value} (h:Reads w size v n cs) (hn:0<n):At w (blk v) (ofs v) cs:=by
 obtain⟨b,o,c,rfl,_,_,h3⟩:=h.has hn;exact h3
theorem Reads.Nu {w:World} {size n i:Nat} {v:Value} {cs:List Value} (h:Reads w size v n cs) (hi:i<=n):Reads w size (XK.Nu v i) i (cs.take (i*size)):=by
 obtain⟨a,c,rfl,_⟩:=h.len;exact Reads.take h hi
theorem Reads.H6 {w:World} {size n i:Nat} {v:Value} {cs:List Value} (h:Reads w size v n cs) (hi:i<=n):Reads w size (XK.H6 size v i) (n-i) (cs.drop (i*size)):=by
 obtain⟨a,c,rfl,_⟩:=h.len;exact Reads.drop h hi
theorem Ep {w:World} {base:Nat} {e:TypeId} {size n:Nat} {v:Value} {xs:List Value} (h:w.ownsRow base e size v n xs) (hn:0<n):base<=blk v:=by
 rcases h.2 with ⟨_,h0⟩|⟨g,cap,cur,rfl,hg,_⟩
 ·omega
 ·exact hg
theorem Stp.buildSlice {w:World} {t e:TypeId} {len:Nat} {parts:Array (Nat×Operand)} {vs:List (Nat×Value)} {cells:List Value} {z:Value} {size bytes:Nat} {K:Value->World->Prop} (ht:P.underlying t=some (.slice e)) (hi:Inf P e z size bytes)
   (hs:Nat.ble (len*size) 16777216=true) (hp:Nat.blt 0 (len*size)=true) (hv:kU env parts.toList=some vs)
   (hf:Instr.fill (fun i=>some (i*size,size)) ((Array.range (len*size)).map (z.cells[· % z.cells.size]!)) vs=some cells.toArray)
   (h:∀ w',Ext w w'->w'.heap.size=w.heap.size+1->Row w' w.heap.size e cells->K (.slice (some ⟨w.heap.size,0,none⟩) len len) w'):Stp P env w ⟨d,.buildSlice t len parts,ty,pos,af,g⟩ K:=fun a N ha=>by
 obtain⟨inf,h2,h3,h4,h5⟩:=hi.ex;subst h4;have hs':len*inf.size<=16777216:=by simpa using hs
 have hp':0<len*inf.size:=by simpa using hp
 have hr:=run_buildSlice (P:=P) w t e len (parts.map fun(i,x)=>(i,a.eval x)) cells.toArray inf z ht h2 h3 au au (by rw [Array.toList_map,ha.kU hv];exact hf)
 simp only [execOp,Sem.run_bind,hr,Result.andThen_ok,Sem.run_pure];exact h _ (Ext.alloc w _) (by simp) (Row.new w e cells)
theorem Stp.buildNil {w:World} {t e:TypeId} {z:Value} {size bytes:Nat} {K:Value->World->Prop} (ht:P.underlying t=some (.slice e)) (hi:Inf P e z size bytes)
   (h:∀ w',Ext w w'->w'.heap.size=w.heap.size+1->Row w' w.heap.size e []->K (.slice (some ⟨w.heap.size,0,none⟩) 0 0) w'):Stp P env w ⟨d,.buildSlice t 0 #[],ty,pos,af,g⟩ K:=fun a N ha=>by
 obtain⟨inf,h2,h3,h4,h5⟩:=hi.ex;have hk:=h (w.alloc (.cells #[] e)) (Ext.alloc w _) (by simp) (Row.new w e [])
 simp [execOp,Instr.buildSlice,run_underlying ht,sizeOf,typeInfo,h2,Instr.fill,newRow,jJ];have e0:Array.map (fun _=>(default:Value)) (Array.range 0) = #[]:=Array.eq_empty_of_size_eq_zero (by simp)
 rw [e0];exact hk
theorem run_append_nothing {w:World} {base size n:Nat} {t ty e:TypeId} {i:TypeInfo} {v:Value} {xs:List Value} (ht:P.underlying t=some (.slice e)) (hi:P.info? e=some i) (hown:w.ownsRow base e size v n xs) (a:Option Addr) :
   (Builtin.append_ #[t,t] ty #[v,.slice a 0 0]).run P w=.ok v w:=by
 rcases hown.2 with ⟨rfl,rfl⟩|⟨g,cap,cur,rfl,_,_,hnc,_⟩
 ·cases a<;>simp [Builtin.append_,run_underlying ht,sizeOf,typeInfo,hi,Builtin.lenOf,Builtin.firstCells,loadCells,loadCellsFrom]
 ·cases a<;>simp [Builtin.append_,run_underlying ht,sizeOf,typeInfo,hi,Builtin.lenOf,Builtin.firstCells,hnc,loadCells,loadCellsFrom,storeCells]
theorem Stp.append {w:World} {s x:Operand} {t e:TypeId} {z:Value} {size bytes base n m:Nat} {v u:Value} {xs news:List Value} {K:Value->World->Prop} (ht:P.underlying t=some (.slice e)) (hi:Inf P e z size bytes)
   (hz:z.cells.size=size) (hsz:0<size) (hs:ev env s=some v) (hx:ev env x=some u) (hown:w.ownsRow base e size v n xs) (hbase:base<=w.heap.size) (hr:Reads w size u m news) (h1:∀ q∈news,q.oneCell'=true)
   (hb:(n+m)*bytes<=140737488355328) (hb0:n+m<=maxLen)
   (h:∀ v' w',w'.ownsRow base e size v' (n+m) (xs++news)->w.grownBy w' v.ownBlock->(v'=.slice none 0 0↔v=.slice none 0 0/\m=0)->K v' w'):Stp P env w ⟨d,.call ⟨.builtin .append,#[s,x],#[t,t]⟩,ty,pos,af,g⟩ K:=fun a N ha=>by
 obtain⟨inf,h2,h3,h4,h5⟩:=hi.ex
 have hrun:∃ v' w',(Builtin.append_ #[t,t] ty #[v,u]).run P w=.ok v' w'/\w'.ownsRow base e size v' (n+m) (xs++news)/\w.grownBy w' v.ownBlock/\(v'=.slice none 0 0↔v=.slice none 0 0/\m=0):=by
   rcases hr.2 with ⟨⟨a',hu⟩,hm⟩|⟨b,o,c,hu,hmc,_,hat⟩
   ·subst hu hm;have hn:news=[]:=List.eq_nil_of_length_eq_zero (by simpa using hr.1)
    subst hn;exact⟨v,w,run_append_nothing (P:=P) (w:=w) (base:=base) ht h2 hown a',by simpa using hown,⟨rfl,rfl,rfl,Nat.le_refl _,fun _ _ _=>rfl⟩,by simp⟩
   ·subst hu;exact run_append_own (P:=P) w base t ty e inf z size bytes ht h2 h3 h4 h5 hz hsz v n xs hown ⟨b,o,none⟩ m c news hr.1 (fun j q hj=>by rw [Addr.add_mid];exact hat j q hj) h1 hb0 hb hbase
 obtain⟨v',w',hq,h6,h7,h8⟩:=hrun;simp only [execOp,resolve,invoke,builtin,Sem.run_bind,Sem.run_pure,Result.andThen_ok,List.map_toArray,List.map_cons,List.map_nil,ha.ev hs,ha.ev hx,hq];exact h v' w' h6 h7 h8
end
structure gT (w:World) (g:Nat) (cur:Array Value) (e:TypeId):Prop where
 ex:∃ fr:Nat×Nat,w.heap[g]?=some (.cells cur e fr)/\(fr=(0,0)\/cur.size<=fr.1)
theorem gT.plain {w:World} {g:Nat} {cur:Array Value} {e:TypeId} (h:w.heap[g]?=some (.cells cur e (0,0))):gT w g cur e:=⟨⟨_,h,.inl rfl⟩⟩
theorem gT.lt {w:World} {g:Nat} {cur:Array Value} {e:TypeId} (h:gT w g cur e):g<w.heap.size:=by
 obtain⟨fr,h1,_⟩:=h.ex;exact(Array.getElem?_eq_some_iff.1 h1).1
theorem gT.cell {w:World} {g j:Nat} {cur:Array Value} {e:TypeId} {v:Value} (h:gT w g cur e) (hj:cur[j]?=some v):w.cell? ⟨g,j,none⟩=some v:=by
 obtain⟨fr,h1,_⟩:=h.ex;simp [World.cell?,h1,hj]
theorem gT.same {w w':World} {g:Nat} {cur:Array Value} {e:TypeId} (h:gT w g cur e) (hs:w'.heap[g]?=w.heap[g]?):gT w' g cur e:=by
 obtain⟨fr,h1,h2⟩:=h.ex;exact⟨⟨fr,hs.trans h1,h2⟩⟩
theorem gT.setRow {w:World} {g:Nat} {cur cs:Array Value} {e:TypeId} (h:gT w g cur e) (hs:cs.size=cur.size):gT (w.setRow g cs) g cs e:=by
 obtain⟨fr,h1,h2⟩:=h.ex;exact⟨⟨fr,setRow_heap w g cur cs e fr h1,by rw [hs];exact h2⟩⟩
theorem fU (P:Program) (g o:Nat) (t:TypeId):∀ (vs:List Value) (i:Nat) (cur:Array Value) (w:World),gT w g cur t->o+i+vs.length<=cur.size->(∀ v∈vs,v.oneCell'=true) ->
   (storeCells ⟨g,o,none⟩ vs i).run P w=.ok () (w.setRow g (cur.toList.take (o+i)++vs++cur.toList.drop (o+i+vs.length)).toArray)
 |[],i,cur,w,hg,_,_=>by
   obtain⟨fr,h1,_⟩:=hg.ex;simp only [storeCells,List.append_nil,List.length_nil,Nat.add_zero,List.take_append_drop,Array.toArray_toList];rw [setRow_self w g cur t fr h1];rfl
 |v::rest,i,cur,w,hg,hl,h1=>by
   obtain⟨fr,hh,hfr⟩:=hg.ex;have hi:o+i<cur.size:=by simp at hl;omega
   have hadd:(⟨g,o,none⟩:Addr).add i=⟨g,o+i,none⟩:=by rw [Addr.add_mid]
   have hfro:w.frozen? ⟨g,o+i,none⟩=false:=by
     obtain⟨a,b⟩:=fr;simp only [World.frozen?,hh];rcases hfr with hfr|hfr
     ·cases hfr;simp
     ·simp only at hfr;simp;omega
   have hst:(store ((⟨g,o,none⟩:Addr).add i) v).run P w=.ok () (w.setRow g (cur.setIfInBounds (o+i) v)):=by
     rw [hadd,run_store P w _ v _ (h1 v (by simp)),hg.cell (Array.getElem?_eq_getElem hi)]
     simp [hfro,setCell_eq_setRow w g (o+i) cur t fr v hh]
   have ih:=fU P g o t rest (i+1) (cur.setIfInBounds (o+i) v) (w.setRow g (cur.setIfInBounds (o+i) v)) (hg.setRow (by simp)) (by simp at hl ⊢;omega) (fun x hx=>h1 x (by simp [hx]))
   simp only [storeCells,Sem.run_bind,hst,Result.andThen_ok,ih,setRow_setRow]
   congr 3
   have e:=list_seg_step cur.toList (o+i) v rest (by simp at hl ⊢;omega)
   simpa [Array.toList_setIfInBounds,Nat.add_assoc] using e
def gU (w:World) (base:Nat) (e:TypeId) (size:Nat) (v:Value) (n:Nat) (xs:List Value):Prop :=
 xs.length=n*size/\((v=.slice none 0 0/\n=0) \/
  ∃ g o cap cur,v=.slice (some ⟨g,o,none⟩) n cap/\base<=g/\gT w g cur e/\n<=cap/\cap<=maxLen/\o+cap*size<=cur.size/\(cur.toList.drop o).take (n*size)=xs)
section
variable {w w':World} {base:Nat} {e:TypeId} {size n:Nat} {v:Value} {xs:List Value}
theorem gU.LW (h:w.ownsRow base e size v n xs):gU w base e size v n xs:=by
 refine⟨h.1,?_⟩;rcases h.2 with h2|⟨g,cap,cur,hv,hg,hh,hn,hm,hs,ht⟩
 ·exact .inl h2
 ·exact .inr ⟨g,0,cap,cur,hv,hg,.plain hh,hn,hm,au,by rw [List.drop_zero];exact ht⟩
theorem gU.lt (h:gU w base e size v n xs):∀ k,v.ownBlock=some k->base<=k/\k<w.heap.size:=by
 intro k hk;rcases h.2 with ⟨rfl,_⟩|⟨g,o,cap,cur,rfl,hb,hg,_⟩
 ·simp [Value.ownBlock]at hk
 ·simp [Value.ownBlock]at hk;subst hk;exact⟨hb,hg.lt⟩
theorem gU.reads (h:gU w base e size v n xs):Reads w size v n xs:=by
 refine⟨h.1,?_⟩;rcases h.2 with h2|⟨b,o,c,cur,hv,_,hh,hn,hm,hs,ht⟩
 ·exact .inl ⟨⟨_,h2.1⟩,h2.2⟩
 ·refine .inr ⟨b,o,c,hv,hn,hm,fun j u hj=>?_⟩
  have hjl:=(List.getElem?_eq_some_iff.1 hj).1;rw [<- ht,List.getElem?_take]at hj;split at hj
  ·rw [List.getElem?_drop,Array.getElem?_toList]at hj;exact hh.cell hj
  ·cases hj
theorem gU.mod {S:Nat->Prop} (m:Mod S w w') (h:gU w base e size v n xs) (hn:∀ k,v.ownBlock=some k->¬ S k):gU w' base e size v n xs:=by
 refine⟨h.1,?_⟩;rcases h.2 with h2|⟨g,o,cap,cur,hv,hg,hh,r⟩
 ·exact .inl h2
 ·exact .inr ⟨g,o,cap,cur,hv,hg,hh.same (m.block g hh.lt (hn g (by rw [hv];rfl))),r⟩
theorem gU.ext (h:gU w base e size v n xs) (he:Ext w w'):gU w' base e size v n xs:=h.mod (he.mod (fun _=>False)) fun _ _ h=>h
theorem gU.upd {b:Nat} (u:Bu b w w') (h:gU w base e size v n xs) (hn:∀ k,v.ownBlock=some k->k≠b):gU w' base e size v n xs:=h.mod (u.mod (S:=fun k=>k=b) rfl) fun k hk e=>hn k hk e
theorem gU.drop (h:gU w base e size v n xs) {i:Nat} (hi:i<=n):gU w base e size (H6 size v i) (n-i) (xs.drop (i*size)):=by
 refine⟨by rw [List.length_drop,h.1,<- Nat.sub_mul],?_⟩
 rcases h.2 with ⟨rfl,hn⟩|⟨g,o,cap,cur,rfl,hg,hh,hn,hm,hs,ht⟩
 ·left;have:i=0:=by omega
  subst this;simp only [H6];exact⟨by simp,au⟩
 ·right;simp only [H6]
  by_cases hc:cap=i
  ·subst hc;refine⟨g,o,0,cur,by simp,hg,hh,au,au,au,?_⟩
   rw [show n-cap=0 by omega,Nat.zero_mul,List.take_zero,List.drop_of_length_le (by rw [h.1];exact Nat.mul_le_mul_right _ au)]
  ·refine⟨g,o+i*size,cap-i,cur,by simp [hc,Addr.add_mid],hg,hh,au,au,?_,?_⟩
   ·rw [Nat.sub_mul];have:i*size<=cap*size:=Nat.mul_le_mul_right _ au
    omega
   ·rw [<- ht,<- List.drop_drop,List.drop_take,<- Nat.sub_mul]
end
section
variable {P:Program} {env:List (Nat×Value)} {d:Option Tmp} {ty:TypeId} {pos:String} {af:Array Edge} {g:Option (Nat×Bool)}
theorem Cc {w:World} {t ty e:TypeId} {i:TypeInfo} (ht:P.underlying t=some (.slice e)) (hi:P.info? e=some i)
   {g o sLen sCap:Nat} {cur:Array Value} (hg:gT w g cur e)
   {a:Addr} {m c:Nat} {news:List Value} (hl:news.length=m*i.size) (hnews:∀ j u,news[j]?=some u->w.cell? (a.add j)=some u) (h1:∀ u∈news,u.oneCell'=true)
   (hroom:sLen+m<=sCap) (hfit:o+sLen*i.size+news.length<=cur.size) :
   (Builtin.append_ #[t,t] ty #[.slice (some ⟨g,o,none⟩) sLen sCap,.slice (some a) m c]).run P w =
     .ok (.slice (some ⟨g,o,none⟩) (sLen+m) sCap) (w.setRow g (cur.toList.take (o+sLen*i.size)++news++cur.toList.drop (o+sLen*i.size+news.length)).toArray):=by
 have hf:=run_firstCells_some (P:=P) w i.size m a m c news hl hnews;have hst:=fU P g (o+sLen*i.size) e news 0 cur w hg (by simpa using hfit) h1
 simp only [Nat.add_zero]at hst;simp [Builtin.append_,run_underlying ht,sizeOf,typeInfo,hi,Builtin.lenOf,hroom,hf,Addr.add_mid,hst]
theorem Stp.Ut {w:World} {s x:Operand} {t e:TypeId} {z:Value} {size bytes base n m:Nat} {v u:Value} {xs news:List Value} {K:Value->World->Prop} (ht:P.underlying t=some (.slice e)) (hi:Inf P e z size bytes)
   (hz:z.cells.size=size) (hs:ev env s=some v) (hx:ev env x=some u) (hown:gU w base e size v n xs) (hbase:base<=w.heap.size) (hr:Reads w size u m news) (h1:∀ q∈news,q.oneCell'=true)
   (hb:(n+m)*bytes<=140737488355328) (hb0:n+m<=maxLen)
   (h:∀ v' w',gU w' base e size v' (n+m) (xs++news)->w.grownBy w' v.ownBlock->(∀ k,v'.ownBlock=some k->v.ownBlock=some k\/w.heap.size<=k)->K v' w'):Stp P env w ⟨d,.call ⟨.builtin .append,#[s,x],#[t,t]⟩,ty,pos,af,g⟩ K:=fun a N ha=>by
 obtain⟨inf,h2,h3,h4,h5⟩:=hi.ex
 by_cases hm0:m=0
 ·subst hm0;have hn0:news=[]:=List.eq_nil_of_length_eq_zero (by simpa using hr.1)
  subst hn0
  have hq:(Builtin.append_ #[t,t] ty #[v,u]).run P w=.ok v w:=by
    rcases hr.2 with ⟨⟨a',rfl⟩,_⟩|⟨b',o',c',rfl,_,_,_⟩
    ·rcases hown.2 with ⟨rfl,rfl⟩|⟨g0,o,cap,cur,rfl,hbg,hg,hnc,hcm,hcs,htake⟩
     ·cases a'<;>simp [Builtin.append_,run_underlying ht,sizeOf,typeInfo,h2,Builtin.lenOf,Builtin.firstCells,loadCells,loadCellsFrom]
     ·cases a'<;>simp [Builtin.append_,run_underlying ht,sizeOf,typeInfo,h2,Builtin.lenOf,Builtin.firstCells,loadCells,loadCellsFrom,hnc,storeCells]
    ·rcases hown.2 with ⟨rfl,rfl⟩|⟨g0,o,cap,cur,rfl,hbg,hg,hnc,hcm,hcs,htake⟩
     ·simp [Builtin.append_,run_underlying ht,sizeOf,typeInfo,h2,Builtin.lenOf,Builtin.firstCells,loadCells,loadCellsFrom]
     ·simp [Builtin.append_,run_underlying ht,sizeOf,typeInfo,h2,Builtin.lenOf,Builtin.firstCells,loadCells,loadCellsFrom,hnc,storeCells]
  simp only [execOp,resolve,invoke,builtin,Sem.run_bind,Sem.run_pure,Result.andThen_ok,List.map_toArray,List.map_cons,List.map_nil,ha.ev hs,ha.ev hx,hq];exact h v w (by simpa using hown) ⟨rfl,rfl,rfl,Nat.le_refl _,fun _ _ _=>rfl⟩ fun k hk=>.inl hk
 have hm:0<m:=Nat.pos_of_ne_zero hm0;obtain⟨b',o',c',rfl,hmc,_,hat⟩:=hr.has hm;have hlen:(xs++news).length=(n+m)*size:=by rw [List.length_append,hown.1,hr.1,Nat.add_mul]
 have hnew:∀ j q,news[j]?=some q->w.cell? ((⟨b',o',none⟩:Addr).add j)=some q:=fun j q hj=>by rw [Addr.add_mid];exact hat j q hj
 have grown:∀ (old:Nat),gU (w.drew.alloc (.cells (xs.toArray++news.toArray++Builtin.zeroCells z.cells (grownCap w (n+m) old e-(n+m))) e)) base e size
       (.slice (some ⟨w.heap.size,0,none⟩) (n+m) (grownCap w (n+m) old e)) (n+m) (xs++news):=by
   intro old;have hge:=grownCap_ge w (n+m) old e;have hcm:grownCap w (n+m) old e<=maxLen:=grownCap_le_maxLen w (n+m) old e hb0;refine⟨hlen,.inr ⟨w.heap.size,0,_,_,rfl,hbase,.plain (heap_alloc_new w.drew _),hge,hcm,?_,?_⟩⟩
   ·simp only [Array.size_append,List.size_toArray,size_zeroCells,hz,hown.1,hr.1,<- Nat.add_mul];rw [Nat.zero_add];exact Nat.mul_le_mul_right _ au
   ·simp only [Array.toList_append,List.append_assoc,List.drop_zero];rw [<- List.append_assoc,<- hlen];exact List.take_left
 have hgr:∀ old row,w.grownBy (w.drew.alloc (.cells (xs.toArray++news.toArray++Builtin.zeroCells z.cells (grownCap w (n+m) old e-(n+m))) e)) row:=fun old row =>
   Ext.grownBy ((Below.refl _ _).alloc (Nat.le_refl _) _ |>.drew) row
 have hrun:∃ v' w',(Builtin.append_ #[t,t] ty #[v,.slice (some ⟨b',o',none⟩) m c']).run P w=.ok v' w'/\gU w' base e size v' (n+m) (xs++news)/\w.grownBy w' v.ownBlock/\(∀ k,v'.ownBlock=some k->v.ownBlock=some k\/w.heap.size<=k):=by
   subst h4;have hsm:n+m<=9223372036854775807:=by simp only [maxLen]at hb0;omega
   rcases hown.2 with ⟨rfl,rfl⟩|⟨g0,o,cap,cur,rfl,hbg,hg,hnc,hcm,hcs,htake⟩
   ·have hx:xs=[]:=List.eq_nil_of_length_eq_zero (by simpa using hown.1)
    subst hx;have hr2:=run_append_nil (P:=P) w t ty e inf z ht h2 h3 ⟨b',o',none⟩ m c' news hr.1 hnew au au (by rw [h5];rw [Nat.zero_add]at hb;omega)
    have:=grown 0;have hg2:=hgr 0 (Value.ownBlock (.slice none 0 0));simp only [Nat.zero_add,List.nil_append,Array.empty_append]at this hg2 ⊢;exact⟨_,_,hr2,this,hg2,fun k hk=>.inr (by simp [Value.ownBlock]at hk;omega)⟩
   ·by_cases hroom:n+m<=cap
    ·have hfit:o+n*inf.size+news.length<=cur.size:=by
       have:(n+m)*inf.size<=cap*inf.size:=Nat.mul_le_mul_right _ hroom;rw [Nat.add_mul]at this;rw [hr.1];omega
     have hr2:=Cc (P:=P) (ty:=ty) ht h2 hg hr.1 hnew h1 (c:=c') hroom hfit;refine⟨_,_,hr2,⟨hlen,.inr ⟨g0,o,cap,_,rfl,hbg,hg.setRow (by simp only [List.size_toArray,List.length_append,List.length_take,List.length_drop,Array.length_toList];omega),hroom,hcm,?_,?_⟩⟩,⟨rfl,rfl,rfl,by simp,fun k _ hk=>setRow_other w g0 k _ (fun e=>hk (by simp [Value.ownBlock,e]))⟩,fun k hk=>.inl hk⟩
     ·simp only [List.size_toArray,List.length_append,List.length_take,List.length_drop,Array.length_toList];omega
     ·have hol:o+n*inf.size<=cur.toList.length:=by rw [Array.length_toList];omega
      have e1:(cur.toList.take (o+n*inf.size)).drop o=xs:=by
        rw [<- htake,List.drop_take]
        congr 1
        omega
      have hlo:(List.take (o+n*inf.size) cur.toList).length=o+n*inf.size:=by rw [List.length_take];omega
      rw [List.append_assoc,List.drop_append_of_le_length (by rw [hlo];omega),e1,<- List.append_assoc,<- hlen]
      exact List.take_left
    ·have hr2:=run_append_grow (P:=P) w t ty e inf z ht h2 h3 ⟨g0,o,none⟩ n cap xs hown.1 (fun j q hj=>by
         have hq:=(gU.reads ⟨hown.1,.inr ⟨g0,o,cap,cur,rfl,hbg,hg,hnc,hcm,hcs,htake⟩⟩:Reads w inf.size (.slice (some ⟨g0,o,none⟩) n cap) n xs);rcases hq.2 with ⟨_,hn0⟩|⟨b2,o2,c2,ha',_,_,aag⟩
         ·have hx0:xs=[]:=List.eq_nil_of_length_eq_zero (by rw [hown.1,hn0];simp)
          rw [hx0]at hj;cases hj
         ·cases ha';rw [Addr.add_mid]
          exact aag j q hj) ⟨b',o',none⟩ m c' news hr.1 hnew au au (growslice_fits au (by rw [h5];exact hb))
     exact⟨_,_,hr2,grown cap,hgr cap _,fun k hk=>.inr (by simp [Value.ownBlock]at hk;omega)⟩
 obtain⟨v',w',hq,h6,h7,h8⟩:=hrun;simp only [execOp,resolve,invoke,builtin,Sem.run_bind,Sem.run_pure,Result.andThen_ok,List.map_toArray,List.map_cons,List.map_nil,ha.ev hs,ha.ev hx,hq];exact h v' w' h6 h7 h8
end
section
variable {P:Program} {env:List (Nat×Value)} {d:Option Tmp} {ty:TypeId} {pos:String} {af:Array Edge} {g:Option (Nat×Bool)} {T T':TypeId} {x y:Operand} {a b:ByteArray}
theorem X3 (w:World):(binOp .eql T (.string a) (.string b)).run P w=.ok (.bool (decide (a=b))) w:=by
 rw [binOp_string_eql,Sem.run_pure];have:(a.toList==b.toList)=decide (a=b):=by rw [Bool.eq_iff_iff,Lib.bytes_beq_iff,decide_eq_true_eq]
 rw [this]
theorem X0 (w:World):(binOp .neq T (.string a) (.string b)).run P w=.ok (.bool (!decide (a=b))) w:=by
 rw [binOp_string_neq,Sem.run_pure];have:(a.toList==b.toList)=decide (a=b):=by rw [Bool.eq_iff_iff,Lib.bytes_beq_iff,decide_eq_true_eq]
 rw [this]
theorem gG.seql (hx:ev env x=some (.string a)) (hy:ev env y=some (.string b)):gG P env ⟨d,.binOp .eql T x y T',ty,pos,af,g⟩ (.bool (decide (a=b))):=fun act N ha w=>by
 simp only [execOp,ha.ev hx,ha.ev hy,eqGuard_at_string,Sem.run_bind,Sem.run_pure,Result.andThen_ok,X3];exact⟨rfl,rfl⟩
theorem gG.sneq (hx:ev env x=some (.string a)) (hy:ev env y=some (.string b)):gG P env ⟨d,.binOp .neq T x y T',ty,pos,af,g⟩ (.bool (!decide (a=b))):=fun act N ha w=>by
 simp only [execOp,ha.ev hx,ha.ev hy,eqGuard_at_string,Sem.run_bind,Sem.run_pure,Result.andThen_ok,X0];exact⟨rfl,rfl⟩
end
def Ac (w:World) (base:Nat) (e:TypeId) (v:Value) (n:Nat) (f:Int->Bool) (k:Nat):Prop:=∃ cells,w.ownsRow base e 1 v n cells/\∀ j:Nat,j<k->cells[j]?=some (.bool (f (j:Int)))
theorem Ac.ext {w w':World} {base:Nat} {e:TypeId} {v:Value} {n:Nat} {f:Int->Bool} {k:Nat} (h:Ac w base e v n f k) (he:Ext w w'):Ac w' base e v n f k:=by
 obtain⟨c,h1,h2⟩:=h;exact⟨c,Ext.own h1 he,h2⟩
theorem Ac.get {w:World} {base:Nat} {e:TypeId} {v:Value} {n:Nat} {f:Int->Bool} {k:Nat} (h:Ac w base e v n f k) {z:Int} (h0:0<=z) (hj:z<k) (hk:k<=n):w.cell? ⟨blk v,ofs v+z.toNat * 1,none⟩=some (.bool (f z)):=by
 obtain⟨c,h1,h2⟩:=h;rw [Nat.mul_one];have h3:=h2 z.toNat au
 rw [Int.toNat_of_nonneg h0]at h3;exact Reads.atB (Reads.LW h1) au _ _ h3
theorem Ac.set {w:World} {base:Nat} {e:TypeId} {v:Value} {n:Nat} {f:Int->Bool} {k:Nat} {cells:List Value} (hc:∀ j:Nat,j<k->cells[j]?=some (.bool (f (j:Int)))) (hl:k<cells.length) (h:w.ownsRow base e 1 v n (cells.set k (.bool (f (k:Int))))):Ac w base e v n f (k+1):=by
 refine⟨_,h,fun j hj=>?_⟩
 rcases Nat.lt_or_eq_of_le (Nat.le_of_lt_succ hj)with hj|rfl
 ·rw [List.getElem?_set_ne au]
  exact hc j hj
 ·rw [List.getElem?_set_self hl]
end Go.XK
namespace Go.SX
open List renaming getElem?_eq_getElem -> bZ
open Go.XK Go.RowKit
def WS:Nat:=140737488355328
structure Mm where
 w:World
 S:Nat->Prop
structure Mm.le (m m':Mm):Prop where
 S:∀ b,m.S b->m'.S b/\m'.w.heap[b]?=m.w.heap[b]?
 size:m.w.heap.size<=m'.w.heap.size
theorem Mm.le.refl (m:Mm):m.le m:=⟨fun _ h=>⟨h,rfl⟩,Nat.le_refl _⟩
theorem Mm.le.trans {a b c:Mm} (h:a.le b) (k:b.le c):a.le c:=⟨fun i hi=>⟨(k.S i (h.S i hi).1).1,(k.S i (h.S i hi).1).2.trans (h.S i hi).2⟩,Nat.le_trans h.size k.size⟩
def jI:Value->Option Nat
 |.pointer (some a)=>some a.block
 |.slice (some a) _ _=>some a.block
 |.map r=>r
 |_=>none
def AR (z:Option Bool) (y:Value):Prop:=match z,y with
 |some b,.slice a _ _=>a.isNone=b
 |_,_=>True
theorem u6 {w w':World} {b o:Nat} {us:List Value} (h:At w b o us) (he:w'.heap[b]?=w.heap[b]?):At w' b o us:=fun j v hj=>by
 rw [World.cell?_of_block (w:=w) (a:=⟨b,o+j,none⟩) he];exact h j v hj
theorem Yb {m m':Mm} (hm:m.le m') {K n:Nat} {y:Value} {cs:List Value} (h:Reads m.w K y n cs) (hs:n≠0->∀ b,jI y=some b->m.S b):Reads m'.w K y n cs:=by
 refine⟨h.1,?_⟩;rcases h.2 with h2|⟨b,o,c,rfl,h3,h4,h5⟩
 ·exact .inl h2
 ·refine .inr ⟨b,o,c,rfl,h3,h4,?_⟩
  by_cases hn:n=0
  ·have:cs=[]:=List.eq_nil_of_length_eq_zero (by rw [h.1,hn,Nat.zero_mul])
   subst this;intro j v hj;cases hj
  ·exact u6 h5 (hm.S b (hs hn b rfl)).2
structure CP where
 p:Mm->Value->Prop
 le:∀ m m',m.le m'->∀ y,p m y->p m' y
 one:∀ m y,p m y->y.oneCell'=true
def DL:List CP->Mm->List Value->Prop
 |[],_,us=>us=[]
 |c::r,m,us=>∃ u us',us=u::us'/\c.p m u/\DL r m us'
theorem DL.le {m m':Mm} (hm:m.le m'):∀ {cs:List CP} {us:List Value},DL cs m us->DL cs m' us
 |[],_,h=>h
 |c::_,_,⟨u,us',h1,h2,h3⟩=>⟨u,us',h1,c.le m m' hm u h2,DL.le hm h3⟩
theorem DL.one {m:Mm}:∀ {cs:List CP} {us:List Value},DL cs m us->∀ u∈us,u.oneCell'=true
 |[],_,h,u,hu=>by rw [DL]at h;subst h;cases hu
 |c::_,_,⟨v,us',h1,h2,h3⟩,u,hu=>by
   subst h1;rcases List.mem_cons.1 hu with rfl|hu
   ·exact c.one m u h2
   ·exact DL.one h3 u hu
theorem DL.len {m:Mm}:∀ {cs:List CP} {us:List Value},DL cs m us->us.length=cs.length
 |[],_,h=>by rw [DL]at h;rw [h];rfl
 |_::_,_,⟨_,_,h1,_,h3⟩=>by rw [h1,List.length_cons,List.length_cons,DL.len h3]
def eH {α:Type} (K:Nat) (D:α->List CP) (m:Mm) (l:List α) (bC:List (List Value)):Prop :=
 bC.length=l.length/\(∀ us∈bC,us.length=K)/\∀ (i:Nat) (x:α),l[i]?=some x->∃ us,bC[i]?=some us/\DL (D x) m us
theorem eH.le {α:Type} {K:Nat} {D:α->List CP} {m m':Mm} (hm:m.le m') {l:List α} {bC:List (List Value)} (h:eH K D m l bC):eH K D m' l bC :=
 ⟨h.1,h.2.1,fun i x hx=>(h.2.2 i x hx).imp fun _ h=>⟨h.1,h.2.le hm⟩⟩
theorem eH.flat {α:Type} {K:Nat} {D:α->List CP} {m:Mm} {l:List α} {bC:List (List Value)} (h:eH K D m l bC):bC.flatten.length=l.length*K:=by
 rw [List.length_flatten,<- h.1];have hc:=h.2.1;clear h
 induction bC with
 |nil=>simp
 |cons c r ih=>simp only [List.map_cons,List.sum_cons,List.length_cons,Nat.add_mul,ih (fun us h=>hc us (List.mem_cons_of_mem _ h)),hc c (List.mem_cons_self ..)];omega
theorem eH.one {α:Type} {K:Nat} {D:α->List CP} {m:Mm} {l:List α} {bC:List (List Value)} (h:eH K D m l bC):∀ u∈bC.flatten,u.oneCell'=true:=by
 intro u hu;obtain⟨us,h1,h2⟩:=List.mem_flatten.1 hu;obtain⟨i,hi,e⟩:=List.getElem_of_mem h1;obtain⟨us',h3,h4⟩:=h.2.2 i (l[i]'(by rw [<- h.1];exact hi)) (bZ _)
 rw [bZ hi,e]at h3;cases h3;exact h4.one u h2
theorem eH.nil {α:Type} {K:Nat} {D:α->List CP} {m:Mm}:eH K D m ([]:List α) []:=⟨rfl,fun _ h=>by simp at h,fun _ _ h=>by simp at h⟩
theorem oK {K:Nat}:∀ (us':List (List Value)) (k j:Nat),(∀ c∈us',c.length=K)->∀ (hi:k<us'.length),j<K->us'.flatten[k*K+j]?=us'[k][j]?
 |[],k,_,_,hi,_=>absurd hi (Nat.not_lt_zero _)
 |c::r,0,j,hc,_,hj=>by
   have hcl:=hc c (List.mem_cons_self ..);rw [List.flatten_cons,Nat.zero_mul,Nat.zero_add,List.getElem?_append_left au];rfl
 |c::r,k+1,j,hc,hi,hj=>by
   have hcl:=hc c (List.mem_cons_self ..);rw [List.flatten_cons,List.getElem?_append_right (by rw [hcl,Nat.add_mul];omega),hcl,show(k+1)*K+j-K=k*K+j by rw [Nat.add_mul];omega]
   exact oK r k j (fun c h=>hc c (List.mem_cons_of_mem _ h)) (by simpa using hi) hj
theorem eH.at {α:Type} {K:Nat} {D:α->List CP} {m:Mm} {l:List α} {bC:List (List Value)} (h:eH K D m l bC) {b q:Nat} {w:World} (hat:At w b q bC.flatten) {k:Nat} (hk:k<l.length) (dd:α) :
   ∃ us,At w b (q+k*K) us/\us.length=K/\DL (D (l.getD k dd)) m us:=by
 obtain⟨h1,h2,h3⟩:=h;obtain⟨us,h4,h5⟩:=h3 k l[k] (bZ hk);have hku:k<bC.length:=by omega
 have e:bC[k]=us:=by
   rw [bZ hku]at h4;exact Option.some.inj h4
 have hl:=h2 us (by rw [<- e];exact List.getElem_mem hku)
 refine⟨us,fun j v hj=>?_,hl,by rw [List.getD_eq_getElem?_getD,bZ hk];exact h5⟩
 have hjK:j<K:=by rw [<- hl];exact(List.getElem?_eq_some_iff.1 hj).1
 have:=hat (k*K+j) v (by rw [oK bC k j h2 hku hjK,e];exact hj)
 rw [Nat.add_assoc];exact this
def LD {α:Type} (K B:Nat) (D:α->List CP) (z:Option Bool) (l:List α) (m:Mm) (y:Value):Prop :=
 ∃ bC:List (List Value),Reads m.w K y l.length bC.flatten/\eH K D m l bC/\(l≠[]->∀ b,jI y=some b->m.S b)/\AR z y/\l.length*B<=WS
theorem LD.le {α:Type} {K B:Nat} {D:α->List CP} {z:Option Bool} {l:List α} {m m':Mm} (hm:m.le m') {y:Value} (h:LD K B D z l m y):LD K B D z l m' y:=by
 obtain⟨bC,h1,h2,h4,h5,h6⟩:=h;exact⟨bC,Yb hm h1 fun hn=>h4 (fun e=>hn (by rw [e];rfl)),h2.le hm,fun hn b hb=>(hm.S b (h4 hn b hb)).1,h5,h6⟩
theorem LD.shape {α:Type} {K B:Nat} {D:α->List CP} {z:Option Bool} {l:List α} {m:Mm} {y:Value} (h:LD K B D z l m y):∃ b c,y=.slice b l.length c/\AR z y:=by
 obtain⟨bC,h1,_,_,h5,_⟩:=h;obtain⟨b,c,h,_⟩:=h1.len;exact⟨b,c,h,h5⟩
theorem LD.anyZ {α:Type} {K B:Nat} {D:α->List CP} {z:Option Bool} {l:List α} {m:Mm} {y:Value} (h:LD K B D z l m y):LD K B D none l m y:=by
 obtain⟨bC,h1,h2,h4,_,h6⟩:=h;exact⟨bC,h1,h2,h4,trivial,h6⟩
theorem LD.elem {α:Type} {K B:Nat} {D:α->List CP} {z:Option Bool} {l:List α} {m:Mm} {y:Value} (h:LD K B D z l m y) {k:Nat} (hk:k<l.length) (dd:α) :
   ∃ b q c us,y=.slice (some ⟨b,q,none⟩) l.length c/\m.S b/\At m.w b (q+k*K) us/\DL (D (l.getD k dd)) m us:=by
 obtain⟨bC,h1,h2,h4,_,_⟩:=h;obtain⟨b,q,c,rfl,_,_,hat⟩:=h1.has au
 obtain⟨us,h8,_,h9⟩:=h2.at hat hk dd;exact⟨b,q,c,us,rfl,h4 (fun e=>by rw [e]at hk;exact Nat.not_lt_zero _ hk) b rfl,h8,h9⟩
def oo:Int:=9223372036854775807
theorem Ww:IntKind.i64.max=oo:=by decide
@[reducible] def lC (n:Int):Prop:=-9223372036854775808<=n/\n<=9223372036854775807
def CP.int (n:Int):CP:=⟨fun _ y=>y=.int .i64 n/\lC n,fun _ _ _ _ h=>h,fun _ _ h=>by rw [h.1];rfl⟩
def CP.bool (b:Bool):CP:=⟨fun _ y=>y=.bool b,fun _ _ _ _ h=>h,fun _ _ h=>by rw [h];rfl⟩
def CP.str (s:ByteArray):CP:=⟨fun _ y=>y=.string s/\(s.size:Int)<=oo,fun _ _ _ _ h=>h,fun _ _ h=>by rw [h.1];rfl⟩
def CP.w8 (x:UInt8):CP:=⟨fun _ y=>y=.int .u8 x.toNat,fun _ _ _ _ h=>h,fun _ _ h=>by rw [h];rfl⟩
def CP.w32 (x:UInt32):CP:=⟨fun _ y=>y=.int .u32 x.toNat,fun _ _ _ _ h=>h,fun _ _ h=>by rw [h];rfl⟩
def CP.jg (x:UInt64):CP:=⟨fun _ y=>y=.int .u64 x.toNat,fun _ _ _ _ h=>h,fun _ _ h=>by rw [h];rfl⟩
def CP.aW {α:Type} (K B:Nat) (D:α->List CP) (l:List α):CP:=⟨fun m y=>LD K B D none l m y,fun _ _ hm _ h=>h.le hm,fun _ _ h=>by obtain⟨_,_,rfl,_⟩:=h.shape;rfl⟩
def CP.lz {α:Type} (K B:Nat) (D:α->List CP) (l:List α):CP:=⟨fun m y=>LD K B D (some l.isEmpty) l m y,fun _ _ hm _ h=>h.le hm,fun _ _ h=>by obtain⟨_,_,rfl,_⟩:=h.shape;rfl⟩
end Go.SX
