/- A part of the proof (texts Any, Env). -/
import Derived.Below
import Derived.OrdersIn
import Derived.RangeFuncCalls
import Derived.Still
import Derived.Tactics
import Derived.WalkKit
import Derived.WalkLawsBesides
import Derived.WalkSpells
set_option linter.all false
set_option maxRecDepth 100000
namespace Go.XK
open Go.RowKit
def Ext (w w':World):Prop:=Below w.heap.size w w'
theorem Ext.refl (w:World):Ext w w:=Below.refl _ _
theorem Ext.trans {a b c:World} (h:Ext a b) (k:Ext b c):Ext a c:=Below.trans h (Below.mono k h.size)
theorem Ext.drawn (w:World):Ext w { w with drawn:=w.drawn+1 }:=⟨rfl,rfl,rfl,Nat.le_refl _,fun _ _=>rfl⟩
abbrev FR (ro:Option Nat):Fence:={ Fence.wide with round:=ro }
section
variable (P:Program) (ops:Array Oper) (md:Region.Mode) (kd:Nat→Nat)
def exUpon (v:Value) (w:World):Result Next→Prop
 |.ok (.value u) w'=>u=v∧Ext w w'
 |.ok .skip w'=>v=undef∧Ext w w'
 |.ok (.enter f args) w'=>w'=w∧Calls P f args w' (fun e w''=>e=.returned v∧Ext w w'')
 |_=>False
def silUpon (v:Value) (w:World):Result Next→Prop
 |.ok (.value u) w'=>u=v∧w'=w
 |_=>False
def stUpon (K:Value→World→Prop):Result Next→Prop
 |.ok (.value u) w'=>K u w'
 |.ok .skip w'=>K undef w'
 |.ok (.enter f args) w'=>Calls P f args w' (fun e w''=>∃ v,e=.returned v∧K v w'')
 |.ok (.round l f tmps assign body) w'=>RoundIn Fence.wide 0 P l f tmps assign body w' (fun e w''=>∃ v,e=.returned v∧K v w'')
 |_=>False
def xKind (o:Oper) (K:Act→World→Prop) (a:Act) (wc:World):Nat→Prop
 |0=>∃ v,(∀ w,Ext wc w→exUpon P v w ((execOp a.eval o).run P w))∧K (a.put o.dst v) wc
 |1=>∃ v,(∀ w,silUpon v w ((execOp a.eval o).run P w))∧K (a.put o.dst v) wc
 |2=>∀ w,Ext wc w→stUpon P (fun v w'=>Ext w w'∧K (a.put o.dst v) w') ((execOp a.eval o).run P w)
 |_+3=>∀ w,Ext wc w→stUpon P (fun v w'=>K (a.put o.dst v) w') ((execOp a.eval o).run P w)
def xOp (i:Nat) (K:Act→World→Prop) (a:Act) (wc:World):Prop :=
 match ops[i]? with
 |none=>False
 |some o=>if Region.wanted o (yielded ops a.tmps)then xKind P o K a wc (kd i)else K (a.put o.dst undef) wc
def AnyX (Kf:Act→World→Prop):Nat→Array Bool→Act→World→Prop
 |0,listed,a,wc=>Region.ready md ops listed=[]∧∀ w,Ext wc w→Kf a w
 |f+1,listed,a,wc=>(Region.ready md ops listed=[]→∀ w,Ext wc w→Kf a w) ∧
     ∀ i∈Region.ready md ops listed,xOp P ops kd i (AnyX Kf f (listed.setIfInBounds i true)) a wc
def YX (i:Nat) (o:Oper) (v:Value) (a:Act) (wc:World):Prop :=
 (Region.wanted o (yielded ops a.tmps)=true∧((kd i=0∧∀ w,Ext wc w→exUpon P v w ((execOp a.eval o).run P w))∨(kd i=1∧∀ w,silUpon v w ((execOp a.eval o).run P w)))) ∨
 (Region.wanted o (yielded ops a.tmps)=false∧v=undef)
def wpX (Kf:Act→World→Prop):List Nat→Act→World→Prop
 |[],a,wc=>∀ w,Ext wc w→Kf a w
 |i::l,a,wc=>xOp P ops kd i (wpX Kf l) a wc
def needs:Nat→Nat→Nat→Bool
 |0,_,_=>false
 |f+1,j,i=>match ops[j]? with
   |some o=>o.after.any fun e=>Region.binds md e&&(e.on==i||needs f e.on i)
   |none=>false
def barsOk (listed:Array Bool) (i:Nat):Bool :=
 (List.range ops.size).all fun j=>kd j≤2||j==i||listed.getD j true||needs ops md ops.size j i
def checkX:List Nat→Array Bool→Bool
 |[],listed=>(Region.ready md ops listed).isEmpty
 |i::l,listed=>(Region.ready md ops listed).contains i &&
     (if kd i≤1 then Region.free md ops listed i&&(kd i==1||barsOk ops md kd listed i)else Region.ready md ops listed==[i]) &&
     checkX l (listed.setIfInBounds i true)
end
section
variable {P:Program} {ops:Array Oper} {md:Region.Mode} {kd:Nat→Nat} {Kf:Act→World→Prop}
theorem stUpon_mono {K K':Value→World→Prop} {r:Result Next} (h:∀ v w,K v w→K' v w) (hr:stUpon P K r):stUpon P K' r:=by
 cases r with
 |ok n w' =>
   cases n<;>simp only [stUpon]at hr ⊢
   case enter f args=>exact hr.mono fun e w'' ⟨v,he,hk⟩=>⟨v,he,h _ _ hk⟩
   case round l f tmps assign body=>exact hr.mono fun e w'' ⟨v,he,hk⟩=>⟨v,he,h _ _ hk⟩
   all_goals exact h _ _ hr
 |halt x w'=>exact hr
theorem xOp_mono {i:Nat} {K K':Act→World→Prop} {a:Act} {wc:World} (h:∀ a w,K a w→K' a w) (hx:xOp P ops kd i K a wc):xOp P ops kd i K' a wc:=by
 unfold xOp at *
 cases ho:ops[i]? with
 |none=>simp [ho]at hx
 |some o =>
   simp only [ho]at hx ⊢;split
   ·rename_i hw;simp only [hw,if_true]at hx;rcases hk:kd i with _|_|_|n<;>simp only [hk,xKind]at hx ⊢
    ·obtain⟨v,h1,h2⟩:=hx;exact⟨v,h1,h _ _ h2⟩
    ·obtain⟨v,h1,h2⟩:=hx;exact⟨v,h1,h _ _ h2⟩
    ·exact fun w hw'=>stUpon_mono (fun v w' ⟨q1,q2⟩=>⟨q1,h _ _ q2⟩) (hx w hw')
    ·exact fun w hw'=>stUpon_mono (fun v w' q=>h _ _ q) (hx w hw')
   ·rename_i hw;simp only [hw]at hx;exact h _ _ hx
theorem run_defer {c:Call} {o:Oper} {ρ:Operand→Value} (ho:o.op=.defer c) (w:World):(∃ d w',(execOp ρ o).run P w=.ok (.defer d) w')∨∃ h w',(execOp ρ o).run P w=.halt h w':=by
 simp only [execOp,ho,Sem.run_bind]
 cases hr:(resolve ρ c o.type).run P w with
 |ok d w'=>exact .inl ⟨d,w',by simp [Result.andThen]⟩
 |halt h w'=>exact .inr ⟨h,w',by simp [Result.andThen]⟩
theorem semAt_of {ro:Option Nat} {o:Oper} {ρ:Operand→Value} {w:World} (h:∀ n w',(execOp ρ o).run P w≠.ok (.defer n) w') (h2:∀ e w',(execOp ρ o).run P w≠.halt e w'):o.semAt ro ρ=execOp ρ o :=
 Oper.semAt_eq ro ρ o fun c hc=>by
   rcases run_defer (P:=P) (ρ:=ρ) hc w with ⟨d,w',e⟩|⟨e,w',e'⟩
   ·exact h _ _ e
   ·exact h2 _ _ e'
theorem callsIn_of {ro:Option Nat} {n:Nat} {f:FuncId} {args:Array Value} {w:World} {R:Ending→World→Prop} (h:Calls P f args w R):CallsIn (FR ro) n P f args w R:=by
 cases ro with
 |none=>exact callsIn_wide.2 h
 |some l=>exact CallsIn.inRound l (callsIn_wide.2 h)
theorem roundIn_of {ro:Option Nat} {n m:Nat} {l:Nat} {f:FuncId} {tmps:Array Value} {assign body:Code} {w:World} {R:Ending→World→Prop} (h:RoundIn Fence.wide n P l f tmps assign body w R):RoundIn (FR ro) m P l f tmps assign body w R :=
 ⟨trivial,fun c cs _=>h.2 c cs (room_wide _)⟩
theorem wpOp_of_xOp {Q:Exit→Act→World→Prop} {ro:Option Nat} {i:Nat} {K:Act→World→Prop} {K':Act→World→Prop} {a:Act} {wc w:World} (hw:Ext wc w)
   (h:∀ a wc w,Ext wc w→K a wc→K' a w) (hx:xOp P ops kd i K a wc):wpOpIn (FR ro) 0 P ops Q i K' a w:=by
 unfold xOp at hx;unfold wpOpIn
 cases ho:ops[i]? with
 |none=>simp [ho]at hx
 |some o =>
   simp only [ho]at hx ⊢;split
   ·rename_i hwt;simp only [hwt,if_true]at hx;refine⟨fun _ _=>trivial,?_⟩
    rcases hk:kd i with _|_|_|n<;>simp only [hk,xKind]at hx
    ·obtain⟨v,h1,h2⟩:=hx;have h3:=h1 w hw;rw [semAt_of (P:=P) (w:=w) (fun n w' e=>by rw [e]at h3;exact h3) (fun n w' e=>by rw [e]at h3;exact h3)]
     generalize (execOp a.eval o).run P w=r at *
     cases r with
     |ok n w' =>
       cases n<;>simp only [exUpon]at h3<;>simp only [Oper.uponIn]
       case value u=>obtain⟨rfl,e⟩:=h3;exact h _ _ _ (hw.trans e) h2
       case skip=>obtain⟨rfl,e⟩:=h3;exact h _ _ _ (hw.trans e) h2
       case enter f args =>
         obtain⟨rfl,hc⟩:=h3;exact⟨(fun hd=>by cases hd),callsIn_of (hc.mono fun e w'' ⟨he,hw''⟩=>by subst he;exact h _ _ _ (hw.trans hw'') h2)⟩
     |halt x w'=>simp only [exUpon]at h3
    ·obtain⟨v,h1,h2⟩:=hx;have h3:=h1 w;rw [semAt_of (P:=P) (w:=w) (fun n w' e=>by rw [e]at h3;exact h3) (fun n w' e=>by rw [e]at h3;exact h3)]
     generalize (execOp a.eval o).run P w=r at *
     cases r with
     |ok n w' =>
       cases n<;>simp only [silUpon]at h3<;>simp only [Oper.uponIn]
       case value u=>obtain⟨rfl,rfl⟩:=h3;exact h _ _ _ hw h2
     |halt x w'=>simp only [silUpon]at h3
    ·have h3:=hx w hw;rw [semAt_of (P:=P) (w:=w) (fun n w' e=>by rw [e]at h3;exact h3) (fun n w' e=>by rw [e]at h3;exact h3)]
     generalize (execOp a.eval o).run P w=r at *
     cases r with
     |ok n w' =>
       cases n<;>simp only [stUpon]at h3<;>simp only [Oper.uponIn]
       case value u=>exact h _ _ _ (Ext.refl _) h3.2
       case skip=>exact h _ _ _ (Ext.refl _) h3.2
       case enter f args=>exact⟨(fun hd=>by cases hd),callsIn_of (h3.mono fun e w'' ⟨v,he,hk⟩=>by subst he;exact h _ _ _ (Ext.refl _) hk.2)⟩
       case round l f tmps assign body=>exact⟨(fun hd=>by cases hd),roundIn_of (h3.mono fun e w'' ⟨v,he,hk⟩=>by subst he;exact h _ _ _ (Ext.refl _) hk.2)⟩
     |halt x w'=>simp only [stUpon]at h3
    ·have h3:=hx w hw;rw [semAt_of (P:=P) (w:=w) (fun n w' e=>by rw [e]at h3;exact h3) (fun n w' e=>by rw [e]at h3;exact h3)]
     generalize (execOp a.eval o).run P w=r at *
     cases r with
     |ok n w' =>
       cases n<;>simp only [stUpon]at h3<;>simp only [Oper.uponIn]
       case value u=>exact h _ _ _ (Ext.refl _) h3
       case skip=>exact h _ _ _ (Ext.refl _) h3
       case enter f args=>exact⟨(fun hd=>by cases hd),callsIn_of (h3.mono fun e w'' ⟨v,he,hk⟩=>by subst he;exact h _ _ _ (Ext.refl _) hk)⟩
       case round l f tmps assign body=>exact⟨(fun hd=>by cases hd),roundIn_of (h3.mono fun e w'' ⟨v,he,hk⟩=>by subst he;exact h _ _ _ (Ext.refl _) hk)⟩
     |halt x w'=>simp only [stUpon]at h3
   ·rename_i hwt;simp only [hwt]at hx;exact⟨fun _ _=>trivial,h _ _ _ hw hx⟩
theorem wpAny_of_AnyX {Q:Exit→Act→World→Prop} {ro:Option Nat} (hQ:∀ a w,Kf a w→Q .normal a w):∀ (f:Nat) (listed:Array Bool) (a:Act) (wc w:World),Ext wc w→AnyX P ops md kd Kf f listed a wc→wpAnyIn (FR ro) 0 P md ops Q f listed a w
 |0,_,_,_,_,hw,h=>⟨h.1,hQ _ _ (h.2 _ hw)⟩
 |f+1,_,_,_,_,hw,h=>⟨fun h0=>hQ _ _ (h.1 h0 _ hw),fun i hi=>wpOp_of_xOp hw (fun a' wc' w' hw' h'=>wpAny_of_AnyX hQ f _ a' wc' w' hw' h') (h.2 i hi)⟩
theorem YX.xOp {i:Nat} {o:Oper} {v:Value} {a:Act} {wc:World} (hi:ops[i]?=some o) (hy:YX P ops kd i o v a wc) {K:Act→World→Prop} (h:K (a.put o.dst v) wc):xOp P ops kd i K a wc:=by
 unfold XK.xOp;simp only [hi];rcases hy with ⟨hw,⟨hk,hv⟩|⟨hk,hv⟩⟩|⟨hw,rfl⟩
 ·simp only [hw,if_true,hk,xKind];exact⟨v,hv,h⟩
 ·simp only [hw,if_true,hk,xKind];exact⟨v,hv,h⟩
 ·simp only [hw,Bool.false_eq_true,if_false];exact h
theorem YX.of_same {i:Nat} {o:Oper} {v:Value} {a a':Act} {wc:World} (hy:YX P ops kd i o v a wc) (he:execOp a'.eval o=execOp a.eval o)
   (hw:Region.wanted o (yielded ops a'.tmps)=Region.wanted o (yielded ops a.tmps)):YX P ops kd i o v a' wc:=by
 unfold YX at *;rw [he,hw];exact hy
theorem YX.later {i:Nat} {o:Oper} {v:Value} {a:Act} {wc wd:World} (hy:YX P ops kd i o v a wc) (he:Ext wc wd):YX P ops kd i o v a wd:=by
 rcases hy with ⟨hw,⟨hk,hv⟩|⟨hk,hv⟩⟩|h
 ·exact .inl ⟨hw,.inl ⟨hk,fun w h=>hv w (he.trans h)⟩⟩
 ·exact .inl ⟨hw,.inr ⟨hk,hv⟩⟩
 ·exact .inr h
theorem YX.silent {i:Nat} {o:Oper} {v:Value} {a:Act} {wc wd:World} (hy:YX P ops kd i o v a wc) (hk:kd i≠0):YX P ops kd i o v a wd:=by
 rcases hy with ⟨hw,⟨hk',hv⟩|⟨hk',hv⟩⟩|h
 ·exact absurd hk' hk
 ·exact .inl ⟨hw,.inr ⟨hk',hv⟩⟩
 ·exact .inr h
theorem yx_of_xOp {i:Nat} {o:Oper} {a:Act} {wc:World} {K:Act→World→Prop} (hi:ops[i]?=some o) (hk:kd i≤1) (h:xOp P ops kd i K a wc):∃ v,YX P ops kd i o v a wc∧K (a.put o.dst v) wc:=by
 unfold XK.xOp at h;simp only [hi]at h
 by_cases hw:Region.wanted o (yielded ops a.tmps)=true
 ·simp only [hw,if_true]at h;rcases hk':kd i with _|_|n
  ·simp only [hk',xKind]at h;obtain⟨v,h1,h2⟩:=h;exact⟨v,.inl ⟨hw,.inl ⟨hk',h1⟩⟩,h2⟩
  ·simp only [hk',xKind]at h;obtain⟨v,h1,h2⟩:=h;exact⟨v,.inl ⟨hw,.inr ⟨hk',h1⟩⟩,h2⟩
  ·omega
 ·simp only [hw]at h;exact⟨undef,.inr ⟨by simpa using hw,rfl⟩,h⟩
theorem xOp_put {i j:Nat} {oi oj:Oper} {v:Value} (hj:ops[j]?=some oj) (hap:oi.apart ops oj=true)
   (hsi:∀ cs b,oi.op≠.select cs b) (hsj:∀ cs b,oj.op≠.select cs b) {K:Act→World→Prop} {a:Act} {wc:World}
   (hbar:kd j≤2∨kd i≠0) (hy:YX P ops kd i oi v a wc) (h:xOp P ops kd j K (a.put oi.dst v) wc) :
   xOp P ops kd j (fun a' w'=>YX P ops kd i oi v a' w'∧K (a'.put oi.dst v) w') a wc:=by
 obtain⟨h1,h2,h3⟩:=Oper.apart_spec hap
 have keep:∀ (a:Act) (wc:World),YX P ops kd i oi v a wc→∀ u,YX P ops kd i oi v (a.put oj.dst u) wc:=fun a wc hy u =>
   hy.of_same (execOp_put oi hsi a oj.dst u h3) (wanted_put oi a oj.dst u h3)
 unfold XK.xOp at *;simp only [hj]at *;rw [wanted_put oj a oi.dst v h1]at h;split
 ·rename_i hw;simp only [hw,if_true]at h;rcases hk:kd j with _|_|_|n<;>simp only [hk,xKind,execOp_put oj hsj a oi.dst v h1]at h ⊢
  ·obtain⟨u,hu,hn⟩:=h;exact⟨u,hu,keep a wc hy u,by rw [← Act.put_comm a v u h2];exact hn⟩
  ·obtain⟨u,hu,hn⟩:=h;exact⟨u,hu,keep a wc hy u,by rw [← Act.put_comm a v u h2];exact hn⟩
  ·intro w hw';exact stUpon_mono (fun u w' ⟨q1,q2⟩=>⟨q1,keep a w' (hy.later (hw'.trans q1)) u,by rw [← Act.put_comm a v u h2];exact q2⟩) (h w hw')
  ·have hk0:kd i≠0:=by
     rcases hbar with hb|hb
     ·omega
     ·exact hb
   intro w hw';exact stUpon_mono (fun u w' q=>⟨keep a w' (hy.silent hk0) u,by rw [← Act.put_comm a v u h2];exact q⟩) (h w hw')
 ·rename_i hw;simp only [hw]at h;exact⟨keep a wc hy _,by rw [← Act.put_comm a v undef h2];exact h⟩
def Closed (md:Region.Mode) (ops:Array Oper) (listed:Array Bool):Prop :=
 ∀ j oj,ops[j]?=some oj→listed.getD j false=true→∀ e∈oj.after,Region.binds md e=true→listed.getD e.on false=true
theorem Closed.set {i:Nat} {listed:Array Bool} (hc:Closed md ops listed) (hi:i∈Region.ready md ops listed):Closed md ops (listed.setIfInBounds i true):=by
 obtain⟨_,oi,hoi,hall⟩:=mem_ready.1 hi;intro j oj hj hl e he hb
 by_cases hij:i=j
 ·subst hij;have:oj=oi:=Option.some.inj (hj.symm.trans hoi);subst this;exact getD_set_true (hall e he hb)
 ·rw [getD_set_ne false hij]at hl;exact getD_set_true (hc j oj hj hl e he hb)
theorem needs_closed {listed:Array Bool} (hc:Closed md ops listed):∀ (f j i:Nat) (oj:Oper),ops[j]?=some oj→needs ops md f j i=true →
   (∀ e∈oj.after,Region.binds md e=true→listed.getD e.on false=true)→listed.getD i false=true:=by
 intro f
 induction f with
 |zero=>intro j i oj _ h;cases h
 |succ f ih =>
   intro j i oj hj h hall;simp only [needs,hj]at h;obtain⟨e,he,hb⟩:=Array.any_eq_true'.1 h;simp only [Bool.and_eq_true,Bool.or_eq_true,beq_iff_eq]at hb;have hl:=hall e he hb.1;rcases hb.2 with h2|h2
   ·rw [← h2];exact hl
   ·cases hoe:ops[e.on]? with
    |none=>cases f<;>simp [needs,hoe]at h2
    |some oe=>exact ih e.on i oe hoe h2 (hc e.on oe hoe hl)
theorem AnyX_first {i:Nat} {oi:Oper} {v:Value} (hi:ops[i]?=some oi) (hsel:∀ (j:Nat) (o:Oper) cs b,ops[j]?=some o→o.op≠.select cs b) :
   ∀ (fuel:Nat) (listed:Array Bool) (a:Act) (wc:World),Closed md ops listed →
     (∀ j oj,ops[j]?=some oj→j≠i→listed.getD j true=false→(∀ e∈oj.after,Region.binds md e=true→e.on≠i)→oi.apart ops oj=true) →
     (kd i≠0∨∀ j,j<ops.size→j≠i→listed.getD j true=false→kd j≤2∨needs ops md ops.size j i=true) →
     i∈Region.ready md ops listed→YX P ops kd i oi v a wc →
     AnyX P ops md kd Kf fuel (listed.setIfInBounds i true) (a.put oi.dst v) wc→AnyX P ops md kd Kf (fuel+1) listed a wc:=by
 intro fuel
 induction fuel with
 |zero =>
   intro listed a wc _ _ _ hr hy H;refine⟨fun h=>(by rw [h]at hr;cases hr),fun j hj=>?_⟩
   by_cases hji:j=i
   ·subst hji;exact hy.xOp hi H
   ·have:=ready_mono hj hji;rw [H.1]at this;cases this
 |succ fuel ih =>
   intro listed a wc hcl hfree hbars hr hy H;refine⟨fun h=>(by rw [h]at hr;cases hr),fun j hj=>?_⟩
   by_cases hji:j=i
   ·subst hji;exact hy.xOp hi H
   ·have h1:=H.2 j (ready_mono hj hji);obtain⟨hjun,oj,hoj,hall⟩:=mem_ready.1 hj
    have hiun:listed.getD i false=false:=by
      have h0:=(mem_ready.1 hr).1;rcases Nat.lt_or_ge i listed.size with h'|h'
      ·simp [h']at h0 ⊢;exact h0
      ·simp [Array.getElem?_eq_none h']at h0
    have hnot:∀ e∈oj.after,Region.binds md e=true→e.on≠i:=fun e he hb heq=>by
      have h1:=hall e he hb;rw [heq,hiun]at h1;cases h1
    have hbar:kd j≤2∨kd i≠0:=by
      rcases hbars with hb|hb
      ·exact .inr hb
      ·rcases hb j (Array.getElem?_eq_some_iff.1 hoj).1 hji hjun with h2|h2
       ·exact .inl h2
       ·have:=needs_closed hcl ops.size j i oj hoj h2 hall;rw [hiun]at this;cases this
    have h2:=xOp_put hoj (hfree j oj hoj hji hjun hnot) (fun cs b=>hsel i oi cs b hi) (fun cs b=>hsel j oj cs b hoj) hbar hy h1
    have hun':∀ k,(listed.setIfInBounds j true).getD k true=false→listed.getD k true=false:=fun k hun=>by
      by_cases hjk:j=k
      ·subst hjk;exact hjun
      ·rw [getD_set_ne true hjk]at hun;exact hun
    have hfree':∀ k ok,ops[k]?=some ok→k≠i→(listed.setIfInBounds j true).getD k true=false →
        (∀ e∈ok.after,Region.binds md e=true→e.on≠i)→oi.apart ops ok=true:=fun k ok hk hki hun hno=>hfree k ok hk hki (hun' k hun) hno
    have hbars':kd i≠0∨∀ k,k<ops.size→k≠i→(listed.setIfInBounds j true).getD k true=false→kd k≤2∨needs ops md ops.size k i=true :=
      hbars.imp id fun hb k hk hki hun=>hb k hk hki (hun' k hun)
    refine xOp_mono (fun a' w' h3=>ih (listed.setIfInBounds j true) a' w' (hcl.set hj) hfree' hbars' (ready_mono hr (Ne.symm hji)) h3.1 ?_) h2
    rw [Array.setIfInBounds_comm _ _ hji];exact h3.2
theorem AnyX_sched (hs:Region.noSelect ops=true):∀ (l:List Nat) (listed:Array Bool) (a:Act) (wc:World),Closed md ops listed →
   checkX ops md kd l listed=true→wpX P ops kd Kf l a wc→AnyX P ops md kd Kf l.length listed a wc
 |[],_,_,_,_,hB,h=>⟨by simpa [checkX] using hB,h⟩
 |i::l,listed,a,wc,hcl,hB,h=>by
   simp only [checkX,Bool.and_eq_true]at hB;obtain⟨⟨hr,hf⟩,hB'⟩:=hB;have hr':i∈Region.ready md ops listed:=by simpa using hr
   obtain⟨_,oi,hoi,_⟩:=mem_ready.1 hr';have hrec:=fun a' wc' h'=>AnyX_sched hs l (listed.setIfInBounds i true) a' wc' (hcl.set hr') hB' h'
   by_cases hk:kd i≤1
   ·simp only [hk,if_true,Bool.and_eq_true,Bool.or_eq_true,beq_iff_eq]at hf;obtain⟨v,hy,hK⟩:=yx_of_xOp hoi hk h;refine AnyX_first hoi (Region.noSelect_spec hs) l.length listed a wc hcl (Region.free_spec hoi hf.1) ?_ hr' hy (hrec _ _ hK);rcases hf.2 with h1|h1
    ·exact .inl (by omega)
    ·refine .inr fun j hj hji hun=>?_
     have h2:=List.all_eq_true.1 h1 j (List.mem_range.2 hj);simp only [Bool.or_eq_true,decide_eq_true_eq,beq_iff_eq,hji,hun,Bool.false_eq_true,or_false]at h2;exact h2
   ·simp only [hk,if_false,beq_iff_eq]at hf;refine⟨fun h0=>(by rw [h0]at hr';cases hr'),fun j hj=>?_⟩
    rw [hf]at hj;have hji:j=i:=by simpa using hj
    subst hji;exact xOp_mono (fun a' w' h'=>hrec a' w' h') h
theorem AnyX_take (hs:Region.noSelect ops=true) {i:Nat} {oi:Oper} {f:Nat} {listed:Array Bool} {a:Act} {wc:World} (hcl:Closed md ops listed) (hoi:ops[i]?=some oi) (hk:kd i≤1)
   (hr:(Region.ready md ops listed).contains i=true) (hf:Region.free md ops listed i=true) (hb:(kd i==1||barsOk ops md kd listed i)=true)
   (h:xOp P ops kd i (AnyX P ops md kd Kf f (listed.setIfInBounds i true)) a wc):AnyX P ops md kd Kf (f+1) listed a wc:=by
 obtain⟨v,hy,hK⟩:=yx_of_xOp hoi hk h;refine AnyX_first hoi (Region.noSelect_spec hs) f listed a wc hcl (Region.free_spec hoi hf) ?_ (by simpa using hr) hy hK
 rcases Bool.or_eq_true _ _▸hb with h1|h1
 ·have:kd i=1:=by simpa using h1
  exact .inl (by omega)
 ·refine .inr fun j hj hji hun=>?_
  have h2:=List.all_eq_true.1 h1 j (List.mem_range.2 hj);simp only [Bool.or_eq_true,decide_eq_true_eq,beq_iff_eq,hji,hun,Bool.false_eq_true,or_false]at h2;exact h2
theorem AnyX_all {rs:List Nat} {f:Nat} {listed:Array Bool} {a:Act} {wc:World} (hr:Region.ready md ops listed=rs) (hne:rs≠[])
   (h:∀ i∈rs,xOp P ops kd i (AnyX P ops md kd Kf f (listed.setIfInBounds i true)) a wc):AnyX P ops md kd Kf (f+1) listed a wc :=
 ⟨fun h0=>absurd (hr▸h0) hne,fun i hi=>h i (hr▸hi)⟩
theorem closed_start (n:Nat):Closed md ops (Array.replicate n false):=by
 intro j oj _ hl;exfalso;rcases Nat.lt_or_ge j n with h|h
 ·simp [h]at hl
 ·simp [h]at hl
def okX (md:Region.Mode) (ops:Array Oper) (kd:Nat→Nat) (l:List Nat):Bool :=
 Region.noSelect ops&&(l.length==ops.size)&&checkX ops md kd l (Array.replicate ops.size false)
theorem region_draw {id:Nat} {Q:Exit→Act→World→Prop} {ro:Option Nat} {a:Act} {w:World} (l:List Nat) (kd:Nat→Nat) (hm:P.follows .mixedOrders=true) (hB:okX .any ops kd l=true)
   (h:wpX P ops kd (Q .normal) l a w):(Code.region id ops true).wpIn (FR ro) 0 P Q a w:=by
 simp only [okX,Bool.and_eq_true,beq_iff_eq]at hB;obtain⟨⟨hs,hl⟩,hc⟩:=hB;have h1:=AnyX_sched hs l (Array.replicate ops.size false) a w (closed_start _) hc h;rw [hl]at h1;exact wpIn_region_any hm (wpAny_of_AnyX (Kf:=Q .normal) (fun _ _ h=>h) _ _ _ _ _ (Ext.drawn w) h1)
theorem region_drawA {id:Nat} {Q:Exit→Act→World→Prop} {ro:Option Nat} {a:Act} {w:World} (kd:Nat→Nat) (hm:P.follows .mixedOrders=true)
   (h:AnyX P ops .any kd (Q .normal) ops.size (Array.replicate ops.size false) a w):(Code.region id ops true).wpIn (FR ro) 0 P Q a w :=
 wpIn_region_any hm (wpAny_of_AnyX (Kf:=Q .normal) (fun _ _ h=>h) _ _ _ _ _ (Ext.drawn w) h)
theorem wpOps_of_wpX {Q:Exit→Act→World→Prop} {ro:Option Nat} (hQ:∀ a w,Kf a w→Q .normal a w):∀ (l:List Nat) (a:Act) (wc w:World),Ext wc w→wpX P ops kd Kf l a wc→wpOpsIn (FR ro) 0 P ops Q l a w
 |[],_,_,_,hw,h=>by simp only [wpOpsIn];exact hQ _ _ (h _ hw)
 |i::l,a,wc,w,hw,h=>by
   rw [wpOpsIn_cons];exact wpOp_of_xOp hw (fun a' wc' w' hw' h'=>wpOps_of_wpX hQ l a' wc' w' hw' h') h
theorem region_seq {id:Nat} {Q:Exit→Act→World→Prop} {ro:Option Nat} {a:Act} {w:World} (kd:Nat→Nat)
   (h:wpX P ops kd (Q .normal) (List.range ops.size) a w):(Code.region id ops false).wpIn (FR ro) 0 P Q a w :=
 wpIn_region (wpOps_of_wpX (Kf:=Q .normal) (fun _ _ h=>h) _ _ _ _ (Ext.refl w) h)
end
end Go.XK
namespace Go.XK
open Go.RowKit
def look:List (Nat×Value)→Nat→Option Value
 |[],_=>none
 |(k,v)::r,t=>bif Nat.beq k t then some v else look r t
def setE (env:List (Nat×Value)) (d:Option Tmp) (v:Value):List (Nat×Value) :=
 match d with
 |none=>env
 |some t=>(t,v)::env
structure OK (dl:List Deferred) (a:Act) (env:List (Nat×Value)) (N:Nat):Prop where
 size:a.tmps.size=N
 defers:a.defers=dl
 has:∀ t v,look env t=some v→a.tmps.getD t undef=v
def ev (env:List (Nat×Value)):Operand→Option Value
 |.tmp t=>look env t
 |.const v=>some v
 |.global g=>some (.pointer (some ⟨g,0,none⟩))
 |.func f=>some (.func (.func f) #[] #[])
def evs (env:List (Nat×Value)):List Operand→Option (List Value)
 |[]=>some []
 |x::r=>match ev env x,evs env r with
   |some v,some vs=>some (v::vs)
   |_,_=>none
theorem evs_nil {env:List (Nat×Value)}:evs env []=some []:=rfl
theorem evs_cons {env:List (Nat×Value)} {x:Operand} {v:Value} {r:List Operand} {vs:List Value} (h:ev env x=some v) (hr:evs env r=some vs):evs env (x::r)=some (v::vs):=by simp only [evs,h,hr]
def pevs (env:List (Nat×Value)):List (Nat×Operand)→Option (List (Nat×Value))
 |[]=>some []
 |(i,x)::r=>match ev env x,pevs env r with
   |some v,some vs=>some ((i,v)::vs)
   |_,_=>none
theorem pevs_cons {env:List (Nat×Value)} {i:Nat} {x:Operand} {v:Value} {r:List (Nat×Operand)} {vs:List (Nat×Value)} (h:ev env x=some v) (hr:pevs env r=some vs):pevs env ((i,x)::r)=some ((i,v)::vs):=by simp only [pevs,h,hr]
def dOK (d:Option Tmp) (N:Nat):Bool:=match d with|some t=>Nat.blt t N|none=>true
theorem OK.ev {dl:List Deferred} {a:Act} {env:List (Nat×Value)} {N:Nat} (h:OK dl a env N) {x:Operand} {v:Value} (hx:ev env x=some v):a.eval x=v:=by
 cases x with
 |tmp t=>exact h.has t v hx
 |const u=>simp only [XK.ev,Option.some.injEq]at hx;exact hx
 |global g=>simp only [XK.ev,Option.some.injEq]at hx;exact hx
 |func f=>simp only [XK.ev,Option.some.injEq]at hx;exact hx
theorem OK.evs {dl:List Deferred} {a:Act} {env:List (Nat×Value)} {N:Nat} (h:OK dl a env N):∀ {xs:List Operand} {vs:List Value},evs env xs=some vs→xs.map a.eval=vs
 |[],vs,hx=>by simp only [XK.evs,Option.some.injEq]at hx;simpa using hx
 |x::r,vs,hx=>by
   simp only [XK.evs]at hx;split at hx
   ·rename_i v vr h1 h2;simp only [Option.some.injEq]at hx;rw [List.map_cons,h.ev h1,h.evs h2,hx]
   ·cases hx
theorem OK.pevs {dl:List Deferred} {a:Act} {env:List (Nat×Value)} {N:Nat} (h:OK dl a env N):∀ {xs:List (Nat×Operand)} {vs:List (Nat×Value)},pevs env xs=some vs→(xs.map fun(i,x)=>(i,a.eval x))=vs
 |[],vs,hx=>by simp only [XK.pevs,Option.some.injEq]at hx;simpa using hx
 |(i,x)::r,vs,hx=>by
   simp only [XK.pevs]at hx;split at hx
   ·rename_i v vr h1 h2;simp only [Option.some.injEq]at hx;rw [List.map_cons,h.pevs h2];simp only [h.ev h1];exact hx
   ·cases hx
def OKx (a:Act) (env:List (Nat×Value)) (N:Nat):Prop:=∃ dl,OK dl a env N
theorem OK.x {dl:List Deferred} {a:Act} {env:List (Nat×Value)} {N:Nat} (h:OK dl a env N):OKx a env N:=⟨dl,h⟩
theorem OKx.ev {a:Act} {env:List (Nat×Value)} {N:Nat} (h:OKx a env N) {x:Operand} {v:Value} (hx:XK.ev env x=some v):a.eval x=v:=h.elim fun _ h=>h.ev hx
theorem OKx.evs {a:Act} {env:List (Nat×Value)} {N:Nat} (h:OKx a env N) {xs:List Operand} {vs:List Value} (hx:XK.evs env xs=some vs):xs.map a.eval=vs:=h.elim fun _ h=>h.evs hx
theorem OKx.pevs {a:Act} {env:List (Nat×Value)} {N:Nat} (h:OKx a env N) {xs:List (Nat×Operand)} {vs:List (Nat×Value)} (hx:XK.pevs env xs=some vs):(xs.map fun(i,x)=>(i,a.eval x))=vs:=h.elim fun _ h=>h.pevs hx
theorem OK.put {dl:List Deferred} {a:Act} {env:List (Nat×Value)} {N:Nat} (h:OK dl a env N) {d:Option Tmp} (hd:dOK d N=true) (v:Value):OK dl (a.put d v) (setE env d v) N:=by
 cases d with
 |none=>exact h
 |some t =>
   have ht:t<a.tmps.size:=by
     rw [h.size];simpa [dOK] using hd
   refine⟨by simp [Act.put,h.size],h.defers,fun u x hx=>?_⟩
   simp only [setE,look]at hx
   cases hb:Nat.beq t u with
   |true =>
     have:t=u:=Nat.eq_of_beq_eq_true hb;subst this;simp only [hb,cond_true,Option.some.injEq]at hx;simp [Act.put,ht,hx]
   |false =>
     have hne:t≠u:=fun e=>by subst e;simp at hb
     simp only [hb,cond_false]at hx;have:=h.has u x hx;simp only [Act.put,Array.getD_eq_getD_getElem?,Array.getElem?_setIfInBounds_ne hne]at this ⊢;exact this
def sub (env:List (Nat×Value)):List Nat→Option (List (Nat×Value))
 |[]=>some []
 |t::ts=>match look env t,sub env ts with
   |some v,some r=>some ((t,v)::r)
   |_,_=>none
theorem look_sub (env:List (Nat×Value)):∀ (ts:List Nat) (r:List (Nat×Value)),sub env ts=some r→∀ t v,look r t=some v→look env t=some v
 |[],r,h,t,v,hl=>by simp only [sub,Option.some.injEq]at h;subst h;cases hl
 |u::ts,r,h,t,v,hl=>by
   simp only [sub]at h;split at h
   ·rename_i x r' h1 h2;simp only [Option.some.injEq]at h;subst h;simp only [look]at hl
    cases hb:Nat.beq u t with
    |true =>
      have:u=t:=Nat.eq_of_beq_eq_true hb;subst this;simp only [hb,cond_true,Option.some.injEq]at hl;rw [h1,hl]
    |false =>
      simp only [hb,cond_false]at hl;exact look_sub env ts r' h2 t v hl
   ·cases h
theorem OK.sub {dl:List Deferred} {a:Act} {env env':List (Nat×Value)} {N:Nat} (h:OK dl a env N) (ts:List Nat) (hs:XK.sub env ts=some env'):OK dl a env' N :=
 ⟨h.size,h.defers,fun t v hl=>h.has t v (look_sub env ts env' hs t v hl)⟩
def sel (g:Bool) (v:Value):Value:=bif g then v else undef
theorem sel_eq {c b:Bool} (h:c=b) (v:Value):sel (c==b) v=v:=by rw [h];simp [sel]
section
variable (P:Program)
def Exa (env:List (Nat×Value)) (wc:World) (o:Oper) (v:Value):Prop:=∀ a N,OKx a env N→∀ w,Ext wc w→exUpon P v w ((execOp a.eval o).run P w)
def Sil (env:List (Nat×Value)) (o:Oper) (v:Value):Prop:=∀ a N,OKx a env N→∀ w,silUpon v w ((execOp a.eval o).run P w)
def Stp (env:List (Nat×Value)) (w:World) (o:Oper) (K:Value→World→Prop):Prop:=∀ a N,OKx a env N→stUpon P K ((execOp a.eval o).run P w)
def EK (dl:List Deferred) (N:Nat) (K:Act→World→Prop) (env:List (Nat×Value)) (wc:World):Prop:=∀ a,OK dl a env N→K a wc
def ER (ops:Array Oper) (kd:Nat→Nat) (Kf:Act→World→Prop) (dl:List Deferred) (N:Nat) (l:List Nat) (env:List (Nat×Value)) (wc:World):Prop:=∀ a,OK dl a env N→wpX P ops kd Kf l a wc
end
section
variable {P:Program} {ops:Array Oper} {kd:Nat→Nat} {Kf K:Act→World→Prop} {dl:List Deferred} {N:Nat} {l:List Nat} {env:List (Nat×Value)} {wc:World} {i:Nat} {o:Oper} {v:Value}
theorem ER.nil (h:∀ w,Ext wc w→∀ a,OK dl a env N→Kf a w):ER P ops kd Kf dl N [] env wc:=fun a ha w hw=>h w hw a ha
theorem ER.sub {env':List (Nat×Value)} (ts:List Nat) (hs:XK.sub env ts=some env') (h:ER P ops kd Kf dl N l env' wc):ER P ops kd Kf dl N l env wc:=fun a ha=>h a (ha.sub ts hs)
theorem EX.ex (ho:ops[i]?=some o) (hg:o.guard=none) (hk:kd i=0) (hd:dOK o.dst N=true) (hv:Exa P env wc o v) (h:EK dl N K (setE env o.dst v) wc):EK dl N (xOp P ops kd i K) env wc:=by
 intro a ha;simp only [xOp,ho,Region.wanted,hg,if_true,hk,xKind];exact⟨v,fun w hw=>hv a N ha.x w hw,h _ (ha.put hd v)⟩
theorem EX.sil (ho:ops[i]?=some o) (hg:o.guard=none) (hk:kd i=1) (hd:dOK o.dst N=true) (hv:Sil P env o v) (h:EK dl N K (setE env o.dst v) wc):EK dl N (xOp P ops kd i K) env wc:=by
 intro a ha;simp only [xOp,ho,Region.wanted,hg,if_true,hk,xKind];exact⟨v,fun w=>hv a N ha.x w,h _ (ha.put hd v)⟩
theorem EX.st (ho:ops[i]?=some o) (hg:o.guard=none) (hk:kd i=2) (hd:dOK o.dst N=true)
   (h:∀ w,Ext wc w→Stp P env w o (fun v w'=>Ext w w'∧EK dl N K (setE env o.dst v) w')):EK dl N (xOp P ops kd i K) env wc:=by
 intro a ha;simp only [xOp,ho,Region.wanted,hg,if_true,hk,xKind];exact fun w hw=>stUpon_mono (fun v w' ⟨q1,q2⟩=>⟨q1,q2 _ (ha.put hd v)⟩) (h w hw a N ha.x)
theorem EX.bar (ho:ops[i]?=some o) (hg:o.guard=none) (hk:kd i=3) (hd:dOK o.dst N=true)
   (h:∀ w,Ext wc w→Stp P env w o (fun v w'=>EK dl N K (setE env o.dst v) w')):EK dl N (xOp P ops kd i K) env wc:=by
 intro a ha;simp only [xOp,ho,Region.wanted,hg,if_true,hk,xKind];exact fun w hw=>stUpon_mono (fun v w' q=>q _ (ha.put hd v)) (h w hw a N ha.x)
theorem yielded_of {a:Act} (ha:OK dl a env N) {g t:Nat} {c:Bool} (hgd:(ops[g]?).bind (·.dst)=some t) (hc:look env t=some (.bool c)):yielded ops a.tmps g=some c:=by
 have h:=ha.has t _ hc;unfold yielded;rw [hgd];simp only [Option.bind_some];rw [Array.getD_eq_getD_getElem?]at h
 cases hq:a.tmps[t]? with
 |none=>rw [hq]at h;simp [undef]at h
 |some u=>rw [hq]at h;simp only [Option.getD_some]at h;rw [h]
theorem wanted_of {a:Act} (ha:OK dl a env N) {g t:Nat} {b c:Bool} (hg:o.guard=some (g,b)) (hgd:(ops[g]?).bind (·.dst)=some t) (hc:look env t=some (.bool c)) :
   Region.wanted o (yielded ops a.tmps)=(c==b):=by
 simp only [Region.wanted,hg,yielded_of ha hgd hc];cases c<;>cases b<;>rfl
theorem EX.exG {g t:Nat} {b c:Bool} (ho:ops[i]?=some o) (hg:o.guard=some (g,b)) (hgd:(ops[g]?).bind (·.dst)=some t) (hc:look env t=some (.bool c)) (hk:kd i=0) (hd:dOK o.dst N=true)
   (hv:c=b→Exa P env wc o v) (h:EK dl N K (setE env o.dst (sel (c==b) v)) wc):EK dl N (xOp P ops kd i K) env wc:=by
 intro a ha;simp only [xOp,ho,wanted_of ha hg hgd hc,hk]
 by_cases hcb:c=b
 ·subst hcb;simp only [beq_self_eq_true,if_true,xKind];exact⟨v,fun w hw=>hv rfl a N ha.x w hw,by simpa [sel] using h _ (ha.put hd (sel (c==c) v))⟩
 ·have hf:(c==b)=false:=by simpa using hcb
  simp only [hf,Bool.false_eq_true,if_false];simpa [sel,hf] using h _ (ha.put hd (sel (c==b) v))
theorem EX.silG {g t:Nat} {b c:Bool} (ho:ops[i]?=some o) (hg:o.guard=some (g,b)) (hgd:(ops[g]?).bind (·.dst)=some t) (hc:look env t=some (.bool c)) (hk:kd i=1) (hd:dOK o.dst N=true)
   (hv:c=b→Sil P env o v) (h:EK dl N K (setE env o.dst (sel (c==b) v)) wc):EK dl N (xOp P ops kd i K) env wc:=by
 intro a ha;simp only [xOp,ho,wanted_of ha hg hgd hc,hk]
 by_cases hcb:c=b
 ·subst hcb;simp only [beq_self_eq_true,if_true,xKind];exact⟨v,fun w=>hv rfl a N ha.x w,by simpa [sel] using h _ (ha.put hd (sel (c==c) v))⟩
 ·have hf:(c==b)=false:=by simpa using hcb
  simp only [hf,Bool.false_eq_true,if_false];simpa [sel,hf] using h _ (ha.put hd (sel (c==b) v))
theorem EX.skipG {g t:Nat} {b c:Bool} (ho:ops[i]?=some o) (hg:o.guard=some (g,b)) (hgd:(ops[g]?).bind (·.dst)=some t) (hc:look env t=some (.bool c)) (hcb:(c==b)=false) (hd:dOK o.dst N=true)
   (h:EK dl N K (setE env o.dst undef) wc):EK dl N (xOp P ops kd i K) env wc:=by
 intro a ha;simp only [xOp,ho,wanted_of ha hg hgd hc,hcb,Bool.false_eq_true,if_false];exact h _ (ha.put hd undef)
theorem EX.exD {g t:Nat} {b c:Bool} (ho:ops[i]?=some o) (hg:o.guard=some (g,b)) (hgd:(ops[g]?).bind (·.dst)=some t) (hc:look env t=some (.bool c)) (hcb:(c==b)=true) (hk:kd i=0) (hd:dOK o.dst N=true)
   (hv:Exa P env wc o v) (h:EK dl N K (setE env o.dst v) wc):EK dl N (xOp P ops kd i K) env wc:=by
 intro a ha;simp only [xOp,ho,wanted_of ha hg hgd hc,hcb,if_true,hk,xKind];exact⟨v,fun w hw=>hv a N ha.x w hw,h _ (ha.put hd v)⟩
theorem EX.silD {g t:Nat} {b c:Bool} (ho:ops[i]?=some o) (hg:o.guard=some (g,b)) (hgd:(ops[g]?).bind (·.dst)=some t) (hc:look env t=some (.bool c)) (hcb:(c==b)=true) (hk:kd i=1) (hd:dOK o.dst N=true)
   (hv:Sil P env o v) (h:EK dl N K (setE env o.dst v) wc):EK dl N (xOp P ops kd i K) env wc:=by
 intro a ha;simp only [xOp,ho,wanted_of ha hg hgd hc,hcb,if_true,hk,xKind];exact⟨v,fun w=>hv a N ha.x w,h _ (ha.put hd v)⟩
theorem EX.barG {g t:Nat} {b c:Bool} (ho:ops[i]?=some o) (hg:o.guard=some (g,b)) (hgd:(ops[g]?).bind (·.dst)=some t) (hc:look env t=some (.bool c)) (hcb:(c==b)=true) (hk:kd i=3) (hd:dOK o.dst N=true)
   (h:∀ w,Ext wc w→Stp P env w o (fun v w'=>EK dl N K (setE env o.dst v) w')):EK dl N (xOp P ops kd i K) env wc:=by
 intro a ha;simp only [xOp,ho,wanted_of ha hg hgd hc,hcb,if_true,hk,xKind];exact fun w hw=>stUpon_mono (fun v w' q=>q _ (ha.put hd v)) (h w hw a N ha.x)
theorem ER.ex (ho:ops[i]?=some o) (hg:o.guard=none) (hk:kd i=0) (hd:dOK o.dst N=true) (hv:Exa P env wc o v) (h:ER P ops kd Kf dl N l (setE env o.dst v) wc):ER P ops kd Kf dl N (i::l) env wc :=
 EX.ex (K:=wpX P ops kd Kf l) ho hg hk hd hv h
theorem ER.sil (ho:ops[i]?=some o) (hg:o.guard=none) (hk:kd i=1) (hd:dOK o.dst N=true) (hv:Sil P env o v) (h:ER P ops kd Kf dl N l (setE env o.dst v) wc):ER P ops kd Kf dl N (i::l) env wc :=
 EX.sil (K:=wpX P ops kd Kf l) ho hg hk hd hv h
theorem ER.st (ho:ops[i]?=some o) (hg:o.guard=none) (hk:kd i=2) (hd:dOK o.dst N=true)
   (h:∀ w,Ext wc w→Stp P env w o (fun v w'=>Ext w w'∧ER P ops kd Kf dl N l (setE env o.dst v) w')):ER P ops kd Kf dl N (i::l) env wc :=
 EX.st (K:=wpX P ops kd Kf l) ho hg hk hd h
theorem ER.bar (ho:ops[i]?=some o) (hg:o.guard=none) (hk:kd i=3) (hd:dOK o.dst N=true)
   (h:∀ w,Ext wc w→Stp P env w o (fun v w'=>ER P ops kd Kf dl N l (setE env o.dst v) w')):ER P ops kd Kf dl N (i::l) env wc :=
 EX.bar (K:=wpX P ops kd Kf l) ho hg hk hd h
theorem ER.exG {g t:Nat} {b c:Bool} (ho:ops[i]?=some o) (hg:o.guard=some (g,b)) (hgd:(ops[g]?).bind (·.dst)=some t) (hc:look env t=some (.bool c)) (hk:kd i=0) (hd:dOK o.dst N=true)
   (hv:c=b→Exa P env wc o v) (h:ER P ops kd Kf dl N l (setE env o.dst (sel (c==b) v)) wc):ER P ops kd Kf dl N (i::l) env wc :=
 EX.exG (K:=wpX P ops kd Kf l) ho hg hgd hc hk hd hv h
theorem ER.silG {g t:Nat} {b c:Bool} (ho:ops[i]?=some o) (hg:o.guard=some (g,b)) (hgd:(ops[g]?).bind (·.dst)=some t) (hc:look env t=some (.bool c)) (hk:kd i=1) (hd:dOK o.dst N=true)
   (hv:c=b→Sil P env o v) (h:ER P ops kd Kf dl N l (setE env o.dst (sel (c==b) v)) wc):ER P ops kd Kf dl N (i::l) env wc :=
 EX.silG (K:=wpX P ops kd Kf l) ho hg hgd hc hk hd hv h
theorem ER.exD {g t:Nat} {b c:Bool} (ho:ops[i]?=some o) (hg:o.guard=some (g,b)) (hgd:(ops[g]?).bind (·.dst)=some t) (hc:look env t=some (.bool c)) (hcb:(c==b)=true) (hk:kd i=0) (hd:dOK o.dst N=true)
   (hv:Exa P env wc o v) (h:ER P ops kd Kf dl N l (setE env o.dst v) wc):ER P ops kd Kf dl N (i::l) env wc:=EX.exD (K:=wpX P ops kd Kf l) ho hg hgd hc hcb hk hd hv h
theorem ER.silD {g t:Nat} {b c:Bool} (ho:ops[i]?=some o) (hg:o.guard=some (g,b)) (hgd:(ops[g]?).bind (·.dst)=some t) (hc:look env t=some (.bool c)) (hcb:(c==b)=true) (hk:kd i=1) (hd:dOK o.dst N=true)
   (hv:Sil P env o v) (h:ER P ops kd Kf dl N l (setE env o.dst v) wc):ER P ops kd Kf dl N (i::l) env wc:=EX.silD (K:=wpX P ops kd Kf l) ho hg hgd hc hcb hk hd hv h
theorem ER.skipG {g t:Nat} {b c:Bool} (ho:ops[i]?=some o) (hg:o.guard=some (g,b)) (hgd:(ops[g]?).bind (·.dst)=some t) (hc:look env t=some (.bool c)) (hcb:(c==b)=false) (hd:dOK o.dst N=true)
   (h:ER P ops kd Kf dl N l (setE env o.dst undef) wc):ER P ops kd Kf dl N (i::l) env wc :=
 EX.skipG (K:=wpX P ops kd Kf l) ho hg hgd hc hcb hd h
theorem ER.barG {g t:Nat} {b c:Bool} (ho:ops[i]?=some o) (hg:o.guard=some (g,b)) (hgd:(ops[g]?).bind (·.dst)=some t) (hc:look env t=some (.bool c)) (hcb:(c==b)=true) (hk:kd i=3) (hd:dOK o.dst N=true)
   (h:∀ w,Ext wc w→Stp P env w o (fun v w'=>ER P ops kd Kf dl N l (setE env o.dst v) w')):ER P ops kd Kf dl N (i::l) env wc :=
 EX.barG (K:=wpX P ops kd Kf l) ho hg hgd hc hcb hk hd h
end
section
variable (P:Program)
def EA (ops:Array Oper) (kd:Nat→Nat) (Kf:Act→World→Prop) (dl:List Deferred) (N:Nat) (f:Nat) (listed:Array Bool) (env:List (Nat×Value)) (wc:World):Prop:=Closed .any ops listed→∀ a,OK dl a env N→AnyX P ops .any kd Kf f listed a wc
end
def takeOK (ops:Array Oper) (kd:Nat→Nat) (listed:Array Bool) (i:Nat):Bool :=
 Region.noSelect ops&&Nat.ble (kd i) 1&&(Region.ready .any ops listed).contains i&&Region.free .any ops listed i&&(kd i==1||barsOk ops .any kd listed i)
section
variable {P:Program} {ops:Array Oper} {kd:Nat→Nat} {Kf:Act→World→Prop} {dl:List Deferred} {N f:Nat} {listed:Array Bool} {env:List (Nat×Value)} {wc:World}
theorem EA.take (i:Nat) (hc:takeOK ops kd listed i=true) (h:Closed .any ops (listed.setIfInBounds i true)→EK dl N (xOp P ops kd i (AnyX P ops .any kd Kf f (listed.setIfInBounds i true))) env wc):EA P ops kd Kf dl N (f+1) listed env wc:=by
 intro hcl a ha;simp only [takeOK,Bool.and_eq_true]at hc;obtain⟨⟨⟨⟨h1,h2⟩,h3⟩,h4⟩,h5⟩:=hc;have hr:i∈Region.ready .any ops listed:=by simpa using h3
 obtain⟨_,oi,hoi,_⟩:=mem_ready.1 hr;exact AnyX_take h1 hcl hoi (by simpa using h2) h3 h4 h5 (h (hcl.set hr) a ha)
theorem EA.only (i:Nat) (hr:Region.ready .any ops listed=[i]) (h:Closed .any ops (listed.setIfInBounds i true)→EK dl N (xOp P ops kd i (AnyX P ops .any kd Kf f (listed.setIfInBounds i true))) env wc):EA P ops kd Kf dl N (f+1) listed env wc:=by
 intro hcl a ha;refine AnyX_all hr (by simp) fun k hk=>?_
 have hki:k=i:=by simpa using hk
 subst hki;exact h (hcl.set (by rw [hr];simp)) a ha
theorem EA.two (i j:Nat) (hr:Region.ready .any ops listed=[i,j]) (h1:Closed .any ops (listed.setIfInBounds i true)→EK dl N (xOp P ops kd i (AnyX P ops .any kd Kf f (listed.setIfInBounds i true))) env wc)
   (h2:Closed .any ops (listed.setIfInBounds j true)→EK dl N (xOp P ops kd j (AnyX P ops .any kd Kf f (listed.setIfInBounds j true))) env wc):EA P ops kd Kf dl N (f+1) listed env wc:=by
 intro hcl a ha;refine AnyX_all hr (by simp) fun k hk=>?_
 have hk2:k=i∨k=j:=by simpa using hk
 rcases hk2 with rfl|rfl
 ·exact h1 (hcl.set (by rw [hr];simp)) a ha
 ·exact h2 (hcl.set (by rw [hr];simp)) a ha
theorem EA.nil (hr:Region.ready .any ops listed=[]) (h:∀ w,Ext wc w→∀ a,OK dl a env N→Kf a w):EA P ops kd Kf dl N 0 listed env wc:=fun _ a ha=>⟨hr,fun w hw=>h w hw a ha⟩
theorem EA.back (hc:Closed .any ops listed) (h:EA P ops kd Kf dl N f listed env wc):EK dl N (AnyX P ops .any kd Kf f listed) env wc:=h hc
end
section
variable (P:Program) (ro:Option Nat) (dl:List Deferred)
def EC (c:Code) (Q:Exit→Act→World→Prop) (N:Nat) (env:List (Nat×Value)) (w:World):Prop:=∀ a,OK dl a env N→c.wpIn (FR ro) 0 P Q a w
end
def AQ (dl:List Deferred) (e:Exit) (Q:Exit→Act→World→Prop) (N:Nat) (env:List (Nat×Value)) (w:World):Prop:=∀ a,OK dl a env N→Q e a w
section
variable {P:Program} {ro:Option Nat} {dl:List Deferred} {Q:Exit→Act→World→Prop} {N:Nat} {env:List (Nat×Value)} {w:World}
theorem EC.seq {x y:Code} (h:EC P ro dl x (Exit.then (y.wpIn (FR ro) 0 P Q) Q) N env w):EC P ro dl (.seq x y) Q N env w:=fun a ha=>wpIn_seq (h a ha)
theorem AQ.then {y:Code} (h:EC P ro dl y Q N env w):AQ dl .normal (Exit.then (y.wpIn (FR ro) 0 P Q) Q) N env w:=h
theorem AQ.thenExit {K:Act→World→Prop} {id:Nat} (h:AQ dl (.exit id) Q N env w):AQ dl (.exit id) (Exit.then K Q) N env w:=h
theorem AQ.thenRet {K:Act→World→Prop} (h:AQ dl .ret Q N env w):AQ dl .ret (Exit.then K Q) N env w:=h
theorem AQ.blockNormal {id:Nat} (h:AQ dl .normal Q N env w):AQ dl .normal (Exit.inBlock id Q) N env w:=h
theorem AQ.blockRet {id:Nat} (h:AQ dl .ret Q N env w):AQ dl .ret (Exit.inBlock id Q) N env w:=h
theorem AQ.blockHit {id:Nat} (h:AQ dl .normal Q N env w):AQ dl (.exit id) (Exit.inBlock id Q) N env w:=fun a ha=>by simp only [Exit.inBlock,if_true];exact h a ha
theorem EC.skip (h:AQ dl .normal Q N env w):EC P ro dl .skip Q N env w:=fun a ha=>wpIn_skip (h a ha)
theorem EC.ret (h:AQ dl .ret Q N env w):EC P ro dl .ret Q N env w:=fun a ha=>wpIn_ret (h a ha)
theorem EC.exit {id:Nat} (h:AQ dl (.exit id) Q N env w):EC P ro dl (.exit id) Q N env w:=fun a ha=>wpIn_exit (h a ha)
theorem EC.block {id:Nat} {c:Code} (h:EC P ro dl c (Exit.inBlock id Q) N env w):EC P ro dl (.block id c) Q N env w:=fun a ha=>wpIn_block (h a ha)
theorem EC.cond {c:Operand} {x y:Code} {t:Bool} (hc:ev env c=some (.bool t)) (ht:t=true→EC P ro dl x Q N env w) (hf:t=false→EC P ro dl y Q N env w):EC P ro dl (.cond c x y) Q N env w :=
 fun a ha=>wpIn_cond_split (ha.ev hc) (fun h=>ht h a ha) (fun h=>hf h a ha)
theorem EC.region {id:Nat} {ops:Array Oper} (kd:Nat→Nat) (l:List Nat) (hl:List.range ops.size=l) (h:ER P ops kd (Q .normal) dl N l env w):EC P ro dl (.region id ops false) Q N env w :=
 fun a ha=>region_seq kd (by rw [hl];exact h a ha)
theorem EC.draw {id:Nat} {ops:Array Oper} (kd:Nat→Nat) (l:List Nat) (hm:P.follows .mixedOrders=true) (hB:okX .any ops kd l=true) (h:ER P ops kd (Q .normal) dl N l env w):EC P ro dl (.region id ops true) Q N env w :=
 fun a ha=>region_draw l kd hm hB (h a ha)
theorem EC.drawA {id:Nat} {ops:Array Oper} (kd:Nat→Nat) (hm:P.follows .mixedOrders=true) (n:Nat) (hn:ops.size=n) (h:EA P ops kd (Q .normal) dl N n (Array.replicate n false) env w):EC P ro dl (.region id ops true) Q N env w:=by
 subst hn;exact fun a ha=>region_drawA kd hm (h (closed_start _) a ha)
theorem EC.sub {env':List (Nat×Value)} {c:Code} (ts:List Nat) (hs:XK.sub env ts=some env') (h:EC P ro dl c Q N env' w):EC P ro dl c Q N env w:=fun a ha=>h a (ha.sub ts hs)
theorem AQ.sub {env':List (Nat×Value)} {e:Exit} (ts:List Nat) (hs:XK.sub env ts=some env') (h:AQ dl e Q N env' w):AQ dl e Q N env w:=fun a ha=>h a (ha.sub ts hs)
theorem EC.loop {σ:Type} {c:Code} (E:σ→List (Nat×Value)) (F:σ→World→Prop) (μ:σ→Nat) (s0:σ) (ts:List Nat) (h0:XK.sub env ts=some (E s0)) (hF:F s0 w)
   (round:∀ s w,F s w→EC P ro dl c (Exit.then (fun a' w'=>∃ s',OK dl a' (E s') N∧F s' w'∧μ s'<μ s) Q) N (E s) w):EC P ro dl (.loop c) Q N env w:=by
 intro a ha b k cs hro hb hr
 have key:∀ n s a1 w,μ s=n→OK dl a1 (E s) N→F s w →
     ∃ e a' w',Q e a' w'∧ArrivesIn (Machine.fenced P (FR ro)) P (lone (b.atR a1 (.code c :: .inLoop c::k)) cs w) b k cs e a' w':=by
   intro n
   induction n using Nat.strongRecOn with
   |_ n ih =>
     intro s a w hn hO hI;obtain⟨e,a₁,w₁,hq,harr⟩:=round s w hI a hO b (.inLoop c::k) cs hro hb hr
     cases e with
     |normal =>
       obtain⟨s',hO',hI₁,hlt⟩:=hq;obtain⟨e₂,a₂,w₂,hq₂,harr₂⟩:=ih (μ s') (hn▸hlt) s' a₁ w₁ rfl hO' hI₁;exact⟨e₂,a₂,w₂,hq₂,.of_steps (StepsIn.trans harr (.one (fenced_calm hb hr rfl) stepR_inLoop)) harr₂⟩
     |exit id=>exact⟨_,a₁,w₁,hq,.pass (x:=.inLoop c) rfl (fun _ _=>.inl (by simp)) harr⟩
     |goto l=>exact⟨_,a₁,w₁,hq,.pass (x:=.inLoop c) rfl (fun _ _=>.inl (by simp)) harr⟩
     |ret=>exact⟨_,a₁,w₁,hq,.pass (x:=.inLoop c) rfl (fun _ _=>.inl (by simp)) harr⟩
     |panic ch=>exact⟨_,a₁,w₁,hq,.pass (x:=.inLoop c) rfl (fun _ _=>.inl (by simp)) harr⟩
     |outgrown=>exact⟨_,a₁,w₁,hq,.pass (x:=.inLoop c) rfl (fun _ _=>.inl (by simp)) harr⟩
 obtain⟨e,a',w',hq,harr⟩:=key _ s0 a w rfl (ha.sub ts h0) hF;exact⟨e,a',w',hq,.of_steps (.one (fenced_calm hb hr rfl) stepR_loop) harr⟩
theorem AQ.round {σ:Type} {E:σ→List (Nat×Value)} {F:σ→World→Prop} {μ:σ→Nat} {s:σ} (s':σ) (ts:List Nat) (h0:XK.sub env ts=some (E s')) (hF:F s' w) (hm:μ s'<μ s) :
   AQ dl .normal (Exit.then (fun a' w'=>∃ s',OK dl a' (E s') N∧F s' w'∧μ s'<μ s) Q) N env w:=fun _ ha=>⟨s',ha.sub ts h0,hF,hm⟩
theorem EC.join {σ:Type} {x y:Code} (E:σ→List (Nat×Value)) (F:σ→World→Prop) (hx:EC P ro dl x (Exit.then (fun a' w'=>∃ s,OK dl a' (E s) N∧F s w') Q) N env w) (hy:∀ s w,F s w→EC P ro dl y Q N (E s) w):EC P ro dl (.seq x y) Q N env w:=fun a ha=>by
 refine wpIn_seq (wpIn_mono (hx a ha) fun e a' w' h=>?_)
 cases e with
 |normal=>obtain⟨s,h1,h2⟩:=h;exact hy s w' h2 a' h1
 |exit id=>exact h
 |goto l=>exact h
 |ret=>exact h
 |panic ch=>exact h
 |outgrown=>exact h
theorem AQ.join {σ:Type} {E:σ→List (Nat×Value)} {F:σ→World→Prop} (s:σ) (ts:List Nat) (h0:XK.sub env ts=some (E s)) (hF:F s w):AQ dl .normal (Exit.then (fun a' w'=>∃ s,OK dl a' (E s) N∧F s w') Q) N env w:=fun _ ha=>⟨s,ha.sub ts h0,hF⟩
def envOf:Nat→List Value→List (Nat×Value)
 |_,[]=>[]
 |k,v::r=>(k,v)::envOf (k+1) r
theorem look_envOf:∀ (vs:List Value) (k t:Nat) (v:Value),look (envOf k vs) t=some v→k≤t∧vs[t-k]?=some v
 |[],_,_,_,h=>by cases h
 |u::r,k,t,v,h=>by
   simp only [envOf,look]at h
   cases hb:Nat.beq k t with
   |true =>
     have:k=t:=Nat.eq_of_beq_eq_true hb;subst this;simp only [hb,cond_true,Option.some.injEq]at h;simp [h]
   |false =>
     have hne:k≠t:=fun e=>by subst e;simp at hb
     simp only [hb,cond_false]at h;obtain⟨h1,h2⟩:=look_envOf r (k+1) t v h;refine⟨by omega,?_⟩
     rw [show t-k=(t-(k+1))+1 by omega,List.getElem?_cons_succ]
     exact h2
theorem calls_of {P:Program} {f:FuncId} {fn:Func} {c:Code} {args:List Value} {w:World} {R:Ending→World→Prop} {N:Nat}
   (hf:P.funcs[f]?=some fn) (hb:fn.body=some c) (hn:fn.ntmps=N) (ha:Nat.ble args.length N=true)
   (h:EC P none [] c (bodyPost P fn R) N (envOf 0 args) w):Calls P f args.toArray w R:=by
 refine calls_of_wp hf hb (wpIn_wide.1 (h _ ⟨?_,rfl,fun t v hl=>?_⟩))
 ·have:args.length≤N:=by simpa using ha
  simp [hn];omega
 ·obtain⟨_,h2⟩:=look_envOf args 0 t v hl
  have ht:t<args.length:=by
    rcases Nat.lt_or_ge t args.length with h'|h'
    ·exact h'
    ·rw [Nat.sub_zero,List.getElem?_eq_none h']at h2;cases h2
  rw [Nat.sub_zero]at h2;rw [Array.getD_eq_getD_getElem?,Array.getElem?_append,if_pos (by simpa using ht)]
  simp [h2]
theorem AQ.ret1 {fn:Func} {R:Ending→World→Prop} {t:Nat} {v:Value} (hr:fn.results = #[.tmp t]) (hl:look env t=some v) (h:R (.returned v) w):AQ [] .ret (bodyPost P fn R) N env w :=
 fun a ha=>bodyPost_ret (results_tmp hr _ _ _) ha.defers (by rw [ha.has t v hl];exact h)
theorem AQ.ret0 {fn:Func} {R:Ending→World→Prop} (hr:fn.results = #[]) (h:R (.returned (.tuple #[])) w):AQ [] .normal (bodyPost P fn R) N env w :=
 fun _ ha=>bodyPost_end (results_none hr _ _ _) ha.defers h
theorem AQ.ret0' {fn:Func} {R:Ending→World→Prop} (hr:fn.results = #[]) (h:R (.returned (.tuple #[])) w):AQ [] .ret (bodyPost P fn R) N env w :=
 fun _ ha=>bodyPost_ret (results_none hr _ _ _) ha.defers h
end
end Go.XK
