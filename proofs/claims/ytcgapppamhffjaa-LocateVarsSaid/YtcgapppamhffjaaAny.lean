/- A region walked once, whatever order is drawn: four kinds of operations (exact in a class of later worlds, silent, staying, barring). -/
import Derived.Still
import Derived.Below
import Derived.Tactics
import Derived.OrdersIn
import Derived.RangeFuncCalls
namespace Go.XK
open Go.RowKit

/-- w' is a later world: every block of w is as it was. -/
def Ext (w w' : World) : Prop := Below w.heap.size w w'
theorem Ext.refl (w : World) : Ext w w := Below.refl _ _
theorem Ext.trans {a b c : World} (h : Ext a b) (k : Ext b c) : Ext a c := Below.trans h (Below.mono k h.size)
theorem Ext.drawn (w : World) : Ext w { w with drawn := w.drawn + 1 } := ⟨rfl, rfl, rfl, Nat.le_refl _, fun _ _ => rfl⟩

/-- Code of an activation (none), or of the rounds of a loop over a function (its record). -/
abbrev FR (ro : Option Nat) : Fence := { Fence.wide with round := ro }

section
variable (P : Program) (ops : Array Oper) (md : Region.Mode) (kd : Nat → Nat)

/-- An exact operation: one value v, a later world. -/
def exUpon (v : Value) (w : World) : Result Next → Prop
  | .ok (.value u) w' => u = v ∧ Ext w w'
  | .ok .skip w' => v = undef ∧ Ext w w'
  | .ok (.enter f args) w' => w' = w ∧ Calls P f args w' (fun e w'' => e = .returned v ∧ Ext w w'')
  | _ => False
/-- A silent operation: one value v, the same world. -/
def silUpon (v : Value) (w : World) : Result Next → Prop
  | .ok (.value u) w' => u = v ∧ w' = w
  | _ => False
/-- A step: some value, some world. -/
def stUpon (K : Value → World → Prop) : Result Next → Prop
  | .ok (.value u) w' => K u w'
  | .ok .skip w' => K undef w'
  | .ok (.enter f args) w' => Calls P f args w' (fun e w'' => ∃ v, e = .returned v ∧ K v w'')
  | .ok (.round l f tmps assign body) w' => RoundIn Fence.wide 0 P l f tmps assign body w' (fun e w'' => ∃ v, e = .returned v ∧ K v w'')
  | _ => False

/-- 0: exact; 1: silent; 2: a step that leaves a later world; other: a step. -/
def xKind (o : Oper) (K : Act → World → Prop) (a : Act) (wc : World) : Nat → Prop
  | 0 => ∃ v, (∀ w, Ext wc w → exUpon P v w ((execOp a.eval o).run P w)) ∧ K (a.put o.dst v) wc
  | 1 => ∃ v, (∀ w, silUpon v w ((execOp a.eval o).run P w)) ∧ K (a.put o.dst v) wc
  | 2 => ∀ w, Ext wc w → stUpon P (fun v w' => Ext w w' ∧ K (a.put o.dst v) w') ((execOp a.eval o).run P w)
  | _ + 3 => ∀ w, Ext wc w → stUpon P (fun v w' => K (a.put o.dst v) w') ((execOp a.eval o).run P w)

def xOp (i : Nat) (K : Act → World → Prop) (a : Act) (wc : World) : Prop :=
  match ops[i]? with
  | none => False
  | some o => if Region.wanted o (yielded ops a.tmps) then xKind P o K a wc (kd i) else K (a.put o.dst undef) wc

def AnyX (Kf : Act → World → Prop) : Nat → Array Bool → Act → World → Prop
  | 0, listed, a, wc => Region.ready md ops listed = [] ∧ ∀ w, Ext wc w → Kf a w
  | f + 1, listed, a, wc => (Region.ready md ops listed = [] → ∀ w, Ext wc w → Kf a w) ∧
      ∀ i ∈ Region.ready md ops listed, xOp P ops kd i (AnyX Kf f (listed.setIfInBounds i true)) a wc

/-- In state a the operation o (number i) is exact in all worlds later than wc, or silent, or is passed over. -/
def YX (i : Nat) (o : Oper) (v : Value) (a : Act) (wc : World) : Prop :=
  (Region.wanted o (yielded ops a.tmps) = true ∧ ((kd i = 0 ∧ ∀ w, Ext wc w → exUpon P v w ((execOp a.eval o).run P w)) ∨ (kd i = 1 ∧ ∀ w, silUpon v w ((execOp a.eval o).run P w)))) ∨
  (Region.wanted o (yielded ops a.tmps) = false ∧ v = undef)

def wpX (Kf : Act → World → Prop) : List Nat → Act → World → Prop
  | [], a, wc => ∀ w, Ext wc w → Kf a w
  | i :: l, a, wc => xOp P ops kd i (wpX Kf l) a wc

def needs : Nat → Nat → Nat → Bool
  | 0, _, _ => false
  | f + 1, j, i => match ops[j]? with
    | some o => o.after.any fun e => Region.binds md e && (e.on == i || needs f e.on i)
    | none => false

def barsOk (listed : Array Bool) (i : Nat) : Bool :=
  (List.range ops.size).all fun j => kd j ≤ 2 || j == i || listed.getD j true || needs ops md ops.size j i

def checkX : List Nat → Array Bool → Bool
  | [], listed => (Region.ready md ops listed).isEmpty
  | i :: l, listed => (Region.ready md ops listed).contains i &&
      (if kd i ≤ 1 then Region.free md ops listed i && (kd i == 1 || barsOk ops md kd listed i) else Region.ready md ops listed == [i]) &&
      checkX l (listed.setIfInBounds i true)
end

section
variable {P : Program} {ops : Array Oper} {md : Region.Mode} {kd : Nat → Nat} {Kf : Act → World → Prop}

theorem stUpon_mono {K K' : Value → World → Prop} {r : Result Next} (h : ∀ v w, K v w → K' v w) (hr : stUpon P K r) : stUpon P K' r := by
  cases r with
  | ok n w' =>
    cases n <;> simp only [stUpon] at hr ⊢
    case enter f args => exact hr.mono fun e w'' ⟨v, he, hk⟩ => ⟨v, he, h _ _ hk⟩
    case round l f tmps assign body => exact hr.mono fun e w'' ⟨v, he, hk⟩ => ⟨v, he, h _ _ hk⟩
    all_goals exact h _ _ hr
  | halt x w' => exact hr

theorem xOp_mono {i : Nat} {K K' : Act → World → Prop} {a : Act} {wc : World} (h : ∀ a w, K a w → K' a w) (hx : xOp P ops kd i K a wc) : xOp P ops kd i K' a wc := by
  unfold xOp at *
  cases ho : ops[i]? with
  | none => simp [ho] at hx
  | some o =>
    simp only [ho] at hx ⊢
    split
    · rename_i hw
      simp only [hw, if_true] at hx
      rcases hk : kd i with _ | _ | _ | n <;> simp only [hk, xKind] at hx ⊢
      · obtain ⟨v, h1, h2⟩ := hx; exact ⟨v, h1, h _ _ h2⟩
      · obtain ⟨v, h1, h2⟩ := hx; exact ⟨v, h1, h _ _ h2⟩
      · exact fun w hw' => stUpon_mono (fun v w' ⟨q1, q2⟩ => ⟨q1, h _ _ q2⟩) (hx w hw')
      · exact fun w hw' => stUpon_mono (fun v w' q => h _ _ q) (hx w hw')
    · rename_i hw
      simp only [hw] at hx
      exact h _ _ hx

theorem run_defer {c : Call} {o : Oper} {ρ : Operand → Value} (ho : o.op = .defer c) (w : World) : (∃ d w', (execOp ρ o).run P w = .ok (.defer d) w') ∨ ∃ h w', (execOp ρ o).run P w = .halt h w' := by
  simp only [execOp, ho, Sem.run_bind]
  cases hr : (resolve ρ c o.type).run P w with
  | ok d w' => exact .inl ⟨d, w', by simp [Result.andThen]⟩
  | halt h w' => exact .inr ⟨h, w', by simp [Result.andThen]⟩
theorem semAt_of {ro : Option Nat} {o : Oper} {ρ : Operand → Value} {w : World} (h : ∀ n w', (execOp ρ o).run P w ≠ .ok (.defer n) w') (h2 : ∀ e w', (execOp ρ o).run P w ≠ .halt e w') : o.semAt ro ρ = execOp ρ o :=
  Oper.semAt_eq ro ρ o fun c hc => by
    rcases run_defer (P := P) (ρ := ρ) hc w with ⟨d, w', e⟩ | ⟨e, w', e'⟩
    · exact h _ _ e
    · exact h2 _ _ e'
theorem callsIn_of {ro : Option Nat} {n : Nat} {f : FuncId} {args : Array Value} {w : World} {R : Ending → World → Prop} (h : Calls P f args w R) : CallsIn (FR ro) n P f args w R := by
  cases ro with
  | none => exact callsIn_wide.2 h
  | some l => exact CallsIn.inRound l (callsIn_wide.2 h)
theorem roundIn_of {ro : Option Nat} {n m : Nat} {l : Nat} {f : FuncId} {tmps : Array Value} {assign body : Code} {w : World} {R : Ending → World → Prop} (h : RoundIn Fence.wide n P l f tmps assign body w R) : RoundIn (FR ro) m P l f tmps assign body w R :=
  ⟨trivial, fun c cs _ => h.2 c cs (room_wide _)⟩
theorem wpOp_of_xOp {Q : Exit → Act → World → Prop} {ro : Option Nat} {i : Nat} {K : Act → World → Prop} {K' : Act → World → Prop} {a : Act} {wc w : World} (hw : Ext wc w)
    (h : ∀ a wc w, Ext wc w → K a wc → K' a w) (hx : xOp P ops kd i K a wc) : wpOpIn (FR ro) 0 P ops Q i K' a w := by
  unfold xOp at hx
  unfold wpOpIn
  cases ho : ops[i]? with
  | none => simp [ho] at hx
  | some o =>
    simp only [ho] at hx ⊢
    split
    · rename_i hwt
      simp only [hwt, if_true] at hx
      refine ⟨fun _ _ => trivial, ?_⟩
      rcases hk : kd i with _ | _ | _ | n <;> simp only [hk, xKind] at hx
      · obtain ⟨v, h1, h2⟩ := hx
        have h3 := h1 w hw
        rw [semAt_of (P := P) (w := w) (fun n w' e => by rw [e] at h3; exact h3) (fun n w' e => by rw [e] at h3; exact h3)]
        generalize (execOp a.eval o).run P w = r at *
        cases r with
        | ok n w' =>
          cases n <;> simp only [exUpon] at h3 <;> simp only [Oper.uponIn]
          case value u => obtain ⟨rfl, e⟩ := h3; exact h _ _ _ (hw.trans e) h2
          case skip => obtain ⟨rfl, e⟩ := h3; exact h _ _ _ (hw.trans e) h2
          case enter f args =>
            obtain ⟨rfl, hc⟩ := h3
            exact ⟨(fun hd => by cases hd), callsIn_of (hc.mono fun e w'' ⟨he, hw''⟩ => by subst he; exact h _ _ _ (hw.trans hw'') h2)⟩
        | halt x w' => simp only [exUpon] at h3
      · obtain ⟨v, h1, h2⟩ := hx
        have h3 := h1 w
        rw [semAt_of (P := P) (w := w) (fun n w' e => by rw [e] at h3; exact h3) (fun n w' e => by rw [e] at h3; exact h3)]
        generalize (execOp a.eval o).run P w = r at *
        cases r with
        | ok n w' =>
          cases n <;> simp only [silUpon] at h3 <;> simp only [Oper.uponIn]
          case value u => obtain ⟨rfl, rfl⟩ := h3; exact h _ _ _ hw h2
        | halt x w' => simp only [silUpon] at h3
      · have h3 := hx w hw
        rw [semAt_of (P := P) (w := w) (fun n w' e => by rw [e] at h3; exact h3) (fun n w' e => by rw [e] at h3; exact h3)]
        generalize (execOp a.eval o).run P w = r at *
        cases r with
        | ok n w' =>
          cases n <;> simp only [stUpon] at h3 <;> simp only [Oper.uponIn]
          case value u => exact h _ _ _ (Ext.refl _) h3.2
          case skip => exact h _ _ _ (Ext.refl _) h3.2
          case enter f args => exact ⟨(fun hd => by cases hd), callsIn_of (h3.mono fun e w'' ⟨v, he, hk⟩ => by subst he; exact h _ _ _ (Ext.refl _) hk.2)⟩
          case round l f tmps assign body => exact ⟨(fun hd => by cases hd), roundIn_of (h3.mono fun e w'' ⟨v, he, hk⟩ => by subst he; exact h _ _ _ (Ext.refl _) hk.2)⟩
        | halt x w' => simp only [stUpon] at h3
      · have h3 := hx w hw
        rw [semAt_of (P := P) (w := w) (fun n w' e => by rw [e] at h3; exact h3) (fun n w' e => by rw [e] at h3; exact h3)]
        generalize (execOp a.eval o).run P w = r at *
        cases r with
        | ok n w' =>
          cases n <;> simp only [stUpon] at h3 <;> simp only [Oper.uponIn]
          case value u => exact h _ _ _ (Ext.refl _) h3
          case skip => exact h _ _ _ (Ext.refl _) h3
          case enter f args => exact ⟨(fun hd => by cases hd), callsIn_of (h3.mono fun e w'' ⟨v, he, hk⟩ => by subst he; exact h _ _ _ (Ext.refl _) hk)⟩
          case round l f tmps assign body => exact ⟨(fun hd => by cases hd), roundIn_of (h3.mono fun e w'' ⟨v, he, hk⟩ => by subst he; exact h _ _ _ (Ext.refl _) hk)⟩
        | halt x w' => simp only [stUpon] at h3
    · rename_i hwt
      simp only [hwt] at hx
      exact ⟨fun _ _ => trivial, h _ _ _ hw hx⟩

theorem wpAny_of_AnyX {Q : Exit → Act → World → Prop} {ro : Option Nat} (hQ : ∀ a w, Kf a w → Q .normal a w) : ∀ (f : Nat) (listed : Array Bool) (a : Act) (wc w : World), Ext wc w → AnyX P ops md kd Kf f listed a wc → wpAnyIn (FR ro) 0 P md ops Q f listed a w
  | 0, _, _, _, _, hw, h => ⟨h.1, hQ _ _ (h.2 _ hw)⟩
  | f + 1, _, _, _, _, hw, h => ⟨fun h0 => hQ _ _ (h.1 h0 _ hw), fun i hi => wpOp_of_xOp hw (fun a' wc' w' hw' h' => wpAny_of_AnyX hQ f _ a' wc' w' hw' h') (h.2 i hi)⟩

theorem YX.xOp {i : Nat} {o : Oper} {v : Value} {a : Act} {wc : World} (hi : ops[i]? = some o) (hy : YX P ops kd i o v a wc) {K : Act → World → Prop} (h : K (a.put o.dst v) wc) : xOp P ops kd i K a wc := by
  unfold XK.xOp
  simp only [hi]
  rcases hy with ⟨hw, ⟨hk, hv⟩ | ⟨hk, hv⟩⟩ | ⟨hw, rfl⟩
  · simp only [hw, if_true, hk, xKind]; exact ⟨v, hv, h⟩
  · simp only [hw, if_true, hk, xKind]; exact ⟨v, hv, h⟩
  · simp only [hw, Bool.false_eq_true, if_false]; exact h

theorem YX.of_same {i : Nat} {o : Oper} {v : Value} {a a' : Act} {wc : World} (hy : YX P ops kd i o v a wc) (he : execOp a'.eval o = execOp a.eval o)
    (hw : Region.wanted o (yielded ops a'.tmps) = Region.wanted o (yielded ops a.tmps)) : YX P ops kd i o v a' wc := by
  unfold YX at *
  rw [he, hw]
  exact hy
theorem YX.later {i : Nat} {o : Oper} {v : Value} {a : Act} {wc wd : World} (hy : YX P ops kd i o v a wc) (he : Ext wc wd) : YX P ops kd i o v a wd := by
  rcases hy with ⟨hw, ⟨hk, hv⟩ | ⟨hk, hv⟩⟩ | h
  · exact .inl ⟨hw, .inl ⟨hk, fun w h => hv w (he.trans h)⟩⟩
  · exact .inl ⟨hw, .inr ⟨hk, hv⟩⟩
  · exact .inr h
theorem YX.silent {i : Nat} {o : Oper} {v : Value} {a : Act} {wc wd : World} (hy : YX P ops kd i o v a wc) (hk : kd i ≠ 0) : YX P ops kd i o v a wd := by
  rcases hy with ⟨hw, ⟨hk', hv⟩ | ⟨hk', hv⟩⟩ | h
  · exact absurd hk' hk
  · exact .inl ⟨hw, .inr ⟨hk', hv⟩⟩
  · exact .inr h

theorem yx_of_xOp {i : Nat} {o : Oper} {a : Act} {wc : World} {K : Act → World → Prop} (hi : ops[i]? = some o) (hk : kd i ≤ 1) (h : xOp P ops kd i K a wc) : ∃ v, YX P ops kd i o v a wc ∧ K (a.put o.dst v) wc := by
  unfold XK.xOp at h
  simp only [hi] at h
  by_cases hw : Region.wanted o (yielded ops a.tmps) = true
  · simp only [hw, if_true] at h
    rcases hk' : kd i with _ | _ | n
    · simp only [hk', xKind] at h; obtain ⟨v, h1, h2⟩ := h; exact ⟨v, .inl ⟨hw, .inl ⟨hk', h1⟩⟩, h2⟩
    · simp only [hk', xKind] at h; obtain ⟨v, h1, h2⟩ := h; exact ⟨v, .inl ⟨hw, .inr ⟨hk', h1⟩⟩, h2⟩
    · omega
  · simp only [hw] at h
    exact ⟨undef, .inr ⟨by simpa using hw, rfl⟩, h⟩

theorem xOp_put {i j : Nat} {oi oj : Oper} {v : Value} (hj : ops[j]? = some oj) (hap : oi.apart ops oj = true)
    (hsi : ∀ cs b, oi.op ≠ .select cs b) (hsj : ∀ cs b, oj.op ≠ .select cs b) {K : Act → World → Prop} {a : Act} {wc : World}
    (hbar : kd j ≤ 2 ∨ kd i ≠ 0) (hy : YX P ops kd i oi v a wc) (h : xOp P ops kd j K (a.put oi.dst v) wc) :
    xOp P ops kd j (fun a' w' => YX P ops kd i oi v a' w' ∧ K (a'.put oi.dst v) w') a wc := by
  obtain ⟨h1, h2, h3⟩ := Oper.apart_spec hap
  have keep : ∀ (a : Act) (wc : World), YX P ops kd i oi v a wc → ∀ u, YX P ops kd i oi v (a.put oj.dst u) wc := fun a wc hy u =>
    hy.of_same (execOp_put oi hsi a oj.dst u h3) (wanted_put oi a oj.dst u h3)
  unfold XK.xOp at *
  simp only [hj] at *
  rw [wanted_put oj a oi.dst v h1] at h
  split
  · rename_i hw
    simp only [hw, if_true] at h
    rcases hk : kd j with _ | _ | _ | n <;> simp only [hk, xKind, execOp_put oj hsj a oi.dst v h1] at h ⊢
    · obtain ⟨u, hu, hn⟩ := h
      exact ⟨u, hu, keep a wc hy u, by rw [← Act.put_comm a v u h2]; exact hn⟩
    · obtain ⟨u, hu, hn⟩ := h
      exact ⟨u, hu, keep a wc hy u, by rw [← Act.put_comm a v u h2]; exact hn⟩
    · intro w hw'
      exact stUpon_mono (fun u w' ⟨q1, q2⟩ => ⟨q1, keep a w' (hy.later (hw'.trans q1)) u, by rw [← Act.put_comm a v u h2]; exact q2⟩) (h w hw')
    · have hk0 : kd i ≠ 0 := by
        rcases hbar with hb | hb
        · omega
        · exact hb
      intro w hw'
      exact stUpon_mono (fun u w' q => ⟨keep a w' (hy.silent hk0) u, by rw [← Act.put_comm a v u h2]; exact q⟩) (h w hw')
  · rename_i hw
    simp only [hw] at h
    exact ⟨keep a wc hy _, by rw [← Act.put_comm a v undef h2]; exact h⟩

/-- What has been listed is closed. -/
def Closed (md : Region.Mode) (ops : Array Oper) (listed : Array Bool) : Prop :=
  ∀ j oj, ops[j]? = some oj → listed.getD j false = true → ∀ e ∈ oj.after, Region.binds md e = true → listed.getD e.on false = true

theorem Closed.set {i : Nat} {listed : Array Bool} (hc : Closed md ops listed) (hi : i ∈ Region.ready md ops listed) : Closed md ops (listed.setIfInBounds i true) := by
  obtain ⟨_, oi, hoi, hall⟩ := mem_ready.1 hi
  intro j oj hj hl e he hb
  by_cases hij : i = j
  · subst hij
    have : oj = oi := Option.some.inj (hj.symm.trans hoi)
    subst this
    exact getD_set_true (hall e he hb)
  · rw [getD_set_ne false hij] at hl
    exact getD_set_true (hc j oj hj hl e he hb)

theorem needs_closed {listed : Array Bool} (hc : Closed md ops listed) : ∀ (f j i : Nat) (oj : Oper), ops[j]? = some oj → needs ops md f j i = true →
    (∀ e ∈ oj.after, Region.binds md e = true → listed.getD e.on false = true) → listed.getD i false = true := by
  intro f
  induction f with
  | zero => intro j i oj _ h; cases h
  | succ f ih =>
    intro j i oj hj h hall
    simp only [needs, hj] at h
    obtain ⟨e, he, hb⟩ := Array.any_eq_true'.1 h
    simp only [Bool.and_eq_true, Bool.or_eq_true, beq_iff_eq] at hb
    have hl := hall e he hb.1
    rcases hb.2 with h2 | h2
    · rw [← h2]; exact hl
    · cases hoe : ops[e.on]? with
      | none => cases f <;> simp [needs, hoe] at h2
      | some oe => exact ih e.on i oe hoe h2 (hc e.on oe hoe hl)

theorem AnyX_first {i : Nat} {oi : Oper} {v : Value} (hi : ops[i]? = some oi) (hsel : ∀ (j : Nat) (o : Oper) cs b, ops[j]? = some o → o.op ≠ .select cs b) :
    ∀ (fuel : Nat) (listed : Array Bool) (a : Act) (wc : World), Closed md ops listed →
      (∀ j oj, ops[j]? = some oj → j ≠ i → listed.getD j true = false → (∀ e ∈ oj.after, Region.binds md e = true → e.on ≠ i) → oi.apart ops oj = true) →
      (kd i ≠ 0 ∨ ∀ j, j < ops.size → j ≠ i → listed.getD j true = false → kd j ≤ 2 ∨ needs ops md ops.size j i = true) →
      i ∈ Region.ready md ops listed → YX P ops kd i oi v a wc →
      AnyX P ops md kd Kf fuel (listed.setIfInBounds i true) (a.put oi.dst v) wc → AnyX P ops md kd Kf (fuel + 1) listed a wc := by
  intro fuel
  induction fuel with
  | zero =>
    intro listed a wc _ _ _ hr hy H
    refine ⟨fun h => (by rw [h] at hr; cases hr), fun j hj => ?_⟩
    by_cases hji : j = i
    · subst hji; exact hy.xOp hi H
    · have := ready_mono hj hji
      rw [H.1] at this
      cases this
  | succ fuel ih =>
    intro listed a wc hcl hfree hbars hr hy H
    refine ⟨fun h => (by rw [h] at hr; cases hr), fun j hj => ?_⟩
    by_cases hji : j = i
    · subst hji; exact hy.xOp hi H
    · have h1 := H.2 j (ready_mono hj hji)
      obtain ⟨hjun, oj, hoj, hall⟩ := mem_ready.1 hj
      have hiun : listed.getD i false = false := by
        have h0 := (mem_ready.1 hr).1
        rcases Nat.lt_or_ge i listed.size with h' | h'
        · simp [h'] at h0 ⊢; exact h0
        · simp [Array.getElem?_eq_none h'] at h0
      have hnot : ∀ e ∈ oj.after, Region.binds md e = true → e.on ≠ i := fun e he hb heq => by
        have h1 := hall e he hb
        rw [heq, hiun] at h1
        cases h1
      have hbar : kd j ≤ 2 ∨ kd i ≠ 0 := by
        rcases hbars with hb | hb
        · exact .inr hb
        · rcases hb j (Array.getElem?_eq_some_iff.1 hoj).1 hji hjun with h2 | h2
          · exact .inl h2
          · have := needs_closed hcl ops.size j i oj hoj h2 hall
            rw [hiun] at this
            cases this
      have h2 := xOp_put hoj (hfree j oj hoj hji hjun hnot) (fun cs b => hsel i oi cs b hi) (fun cs b => hsel j oj cs b hoj) hbar hy h1
      have hun' : ∀ k, (listed.setIfInBounds j true).getD k true = false → listed.getD k true = false := fun k hun => by
        by_cases hjk : j = k
        · subst hjk; exact hjun
        · rw [getD_set_ne true hjk] at hun; exact hun
      have hfree' : ∀ k ok, ops[k]? = some ok → k ≠ i → (listed.setIfInBounds j true).getD k true = false →
          (∀ e ∈ ok.after, Region.binds md e = true → e.on ≠ i) → oi.apart ops ok = true := fun k ok hk hki hun hno => hfree k ok hk hki (hun' k hun) hno
      have hbars' : kd i ≠ 0 ∨ ∀ k, k < ops.size → k ≠ i → (listed.setIfInBounds j true).getD k true = false → kd k ≤ 2 ∨ needs ops md ops.size k i = true :=
        hbars.imp id fun hb k hk hki hun => hb k hk hki (hun' k hun)
      refine xOp_mono (fun a' w' h3 => ih (listed.setIfInBounds j true) a' w' (hcl.set hj) hfree' hbars' (ready_mono hr (Ne.symm hji)) h3.1 ?_) h2
      rw [Array.setIfInBounds_comm _ _ hji]
      exact h3.2

theorem AnyX_sched (hs : Region.noSelect ops = true) : ∀ (l : List Nat) (listed : Array Bool) (a : Act) (wc : World), Closed md ops listed →
    checkX ops md kd l listed = true → wpX P ops kd Kf l a wc → AnyX P ops md kd Kf l.length listed a wc
  | [], _, _, _, _, hB, h => ⟨by simpa [checkX] using hB, h⟩
  | i :: l, listed, a, wc, hcl, hB, h => by
    simp only [checkX, Bool.and_eq_true] at hB
    obtain ⟨⟨hr, hf⟩, hB'⟩ := hB
    have hr' : i ∈ Region.ready md ops listed := by simpa using hr
    obtain ⟨_, oi, hoi, _⟩ := mem_ready.1 hr'
    have hrec := fun a' wc' h' => AnyX_sched hs l (listed.setIfInBounds i true) a' wc' (hcl.set hr') hB' h'
    by_cases hk : kd i ≤ 1
    · simp only [hk, if_true, Bool.and_eq_true, Bool.or_eq_true, beq_iff_eq] at hf
      obtain ⟨v, hy, hK⟩ := yx_of_xOp hoi hk h
      refine AnyX_first hoi (Region.noSelect_spec hs) l.length listed a wc hcl (Region.free_spec hoi hf.1) ?_ hr' hy (hrec _ _ hK)
      rcases hf.2 with h1 | h1
      · exact .inl (by omega)
      · refine .inr fun j hj hji hun => ?_
        have h2 := List.all_eq_true.1 h1 j (List.mem_range.2 hj)
        simp only [Bool.or_eq_true, decide_eq_true_eq, beq_iff_eq, hji, hun, Bool.false_eq_true, or_false] at h2
        exact h2
    · simp only [hk, if_false, beq_iff_eq] at hf
      refine ⟨fun h0 => (by rw [h0] at hr'; cases hr'), fun j hj => ?_⟩
      rw [hf] at hj
      have hji : j = i := by simpa using hj
      subst hji
      exact xOp_mono (fun a' w' h' => hrec a' w' h') h

theorem AnyX_take (hs : Region.noSelect ops = true) {i : Nat} {oi : Oper} {f : Nat} {listed : Array Bool} {a : Act} {wc : World} (hcl : Closed md ops listed) (hoi : ops[i]? = some oi) (hk : kd i ≤ 1)
    (hr : (Region.ready md ops listed).contains i = true) (hf : Region.free md ops listed i = true) (hb : (kd i == 1 || barsOk ops md kd listed i) = true)
    (h : xOp P ops kd i (AnyX P ops md kd Kf f (listed.setIfInBounds i true)) a wc) : AnyX P ops md kd Kf (f + 1) listed a wc := by
  obtain ⟨v, hy, hK⟩ := yx_of_xOp hoi hk h
  refine AnyX_first hoi (Region.noSelect_spec hs) f listed a wc hcl (Region.free_spec hoi hf) ?_ (by simpa using hr) hy hK
  rcases Bool.or_eq_true _ _ ▸ hb with h1 | h1
  · have : kd i = 1 := by simpa using h1
    exact .inl (by omega)
  · refine .inr fun j hj hji hun => ?_
    have h2 := List.all_eq_true.1 h1 j (List.mem_range.2 hj)
    simp only [Bool.or_eq_true, decide_eq_true_eq, beq_iff_eq, hji, hun, Bool.false_eq_true, or_false] at h2
    exact h2
theorem AnyX_all {rs : List Nat} {f : Nat} {listed : Array Bool} {a : Act} {wc : World} (hr : Region.ready md ops listed = rs) (hne : rs ≠ [])
    (h : ∀ i ∈ rs, xOp P ops kd i (AnyX P ops md kd Kf f (listed.setIfInBounds i true)) a wc) : AnyX P ops md kd Kf (f + 1) listed a wc :=
  ⟨fun h0 => absurd (hr ▸ h0) hne, fun i hi => h i (hr ▸ hi)⟩

theorem closed_start (n : Nat) : Closed md ops (Array.replicate n false) := by
  intro j oj _ hl
  exfalso
  rcases Nat.lt_or_ge j n with h | h
  · simp [h] at hl
  · simp [h] at hl

def okX (md : Region.Mode) (ops : Array Oper) (kd : Nat → Nat) (l : List Nat) : Bool :=
  Region.noSelect ops && (l.length == ops.size) && checkX ops md kd l (Array.replicate ops.size false)

theorem region_draw {id : Nat} {Q : Exit → Act → World → Prop} {ro : Option Nat} {a : Act} {w : World} (l : List Nat) (kd : Nat → Nat) (hm : P.follows .mixedOrders = true) (hB : okX .any ops kd l = true)
    (h : wpX P ops kd (Q .normal) l a w) : (Code.region id ops true).wpIn (FR ro) 0 P Q a w := by
  simp only [okX, Bool.and_eq_true, beq_iff_eq] at hB
  obtain ⟨⟨hs, hl⟩, hc⟩ := hB
  have h1 := AnyX_sched hs l (Array.replicate ops.size false) a w (closed_start _) hc h
  rw [hl] at h1
  exact wpIn_region_any hm (wpAny_of_AnyX (Kf := Q .normal) (fun _ _ h => h) _ _ _ _ _ (Ext.drawn w) h1)

theorem region_drawA {id : Nat} {Q : Exit → Act → World → Prop} {ro : Option Nat} {a : Act} {w : World} (kd : Nat → Nat) (hm : P.follows .mixedOrders = true)
    (h : AnyX P ops .any kd (Q .normal) ops.size (Array.replicate ops.size false) a w) : (Code.region id ops true).wpIn (FR ro) 0 P Q a w :=
  wpIn_region_any hm (wpAny_of_AnyX (Kf := Q .normal) (fun _ _ h => h) _ _ _ _ _ (Ext.drawn w) h)

theorem wpOps_of_wpX {Q : Exit → Act → World → Prop} {ro : Option Nat} (hQ : ∀ a w, Kf a w → Q .normal a w) : ∀ (l : List Nat) (a : Act) (wc w : World), Ext wc w → wpX P ops kd Kf l a wc → wpOpsIn (FR ro) 0 P ops Q l a w
  | [], _, _, _, hw, h => by simp only [wpOpsIn]; exact hQ _ _ (h _ hw)
  | i :: l, a, wc, w, hw, h => by
    rw [wpOpsIn_cons]
    exact wpOp_of_xOp hw (fun a' wc' w' hw' h' => wpOps_of_wpX hQ l a' wc' w' hw' h') h

theorem region_seq {id : Nat} {Q : Exit → Act → World → Prop} {ro : Option Nat} {a : Act} {w : World} (kd : Nat → Nat)
    (h : wpX P ops kd (Q .normal) (List.range ops.size) a w) : (Code.region id ops false).wpIn (FR ro) 0 P Q a w :=
  wpIn_region (wpOps_of_wpX (Kf := Q .normal) (fun _ _ h => h) _ _ _ _ (Ext.refl w) h)
end
end Go.XK
