/- The walk by what the slots hold: a list of slots and values, and one rule for each form of operation and of code. -/
import Derived.Test.YtcgapppamhffjaaAny
import Derived.WalkKit
import Derived.WalkSpells
import Derived.WalkLawsBesides
namespace Go.XK
open Go.RowKit

/-! ### Slots -/
def look : List (Nat × Value) → Nat → Option Value
  | [], _ => none
  | (k, v) :: r, t => bif Nat.beq k t then some v else look r t
def setE (env : List (Nat × Value)) (d : Option Tmp) (v : Value) : List (Nat × Value) :=
  match d with
  | none => env
  | some t => (t, v) :: env
structure OK (dl : List Deferred) (a : Act) (env : List (Nat × Value)) (N : Nat) : Prop where
  size : a.tmps.size = N
  defers : a.defers = dl
  has : ∀ t v, look env t = some v → a.tmps.getD t undef = v
def ev (env : List (Nat × Value)) : Operand → Option Value
  | .tmp t => look env t
  | .const v => some v
  | .global g => some (.pointer (some ⟨g, 0, none⟩))
  | .func f => some (.func (.func f) #[] #[])
def evs (env : List (Nat × Value)) : List Operand → Option (List Value)
  | [] => some []
  | x :: r => match ev env x, evs env r with
    | some v, some vs => some (v :: vs)
    | _, _ => none
theorem evs_nil {env : List (Nat × Value)} : evs env [] = some [] := rfl
theorem evs_cons {env : List (Nat × Value)} {x : Operand} {v : Value} {r : List Operand} {vs : List Value} (h : ev env x = some v) (hr : evs env r = some vs) : evs env (x :: r) = some (v :: vs) := by simp only [evs, h, hr]
def pevs (env : List (Nat × Value)) : List (Nat × Operand) → Option (List (Nat × Value))
  | [] => some []
  | (i, x) :: r => match ev env x, pevs env r with
    | some v, some vs => some ((i, v) :: vs)
    | _, _ => none
theorem pevs_nil {env : List (Nat × Value)} : pevs env [] = some [] := rfl
theorem pevs_cons {env : List (Nat × Value)} {i : Nat} {x : Operand} {v : Value} {r : List (Nat × Operand)} {vs : List (Nat × Value)} (h : ev env x = some v) (hr : pevs env r = some vs) : pevs env ((i, x) :: r) = some ((i, v) :: vs) := by simp only [pevs, h, hr]
def dOK (d : Option Tmp) (N : Nat) : Bool := match d with | some t => Nat.blt t N | none => true

theorem OK.ev {dl : List Deferred} {a : Act} {env : List (Nat × Value)} {N : Nat} (h : OK dl a env N) {x : Operand} {v : Value} (hx : ev env x = some v) : a.eval x = v := by
  cases x with
  | tmp t => exact h.has t v hx
  | const u => simp only [XK.ev, Option.some.injEq] at hx; exact hx
  | global g => simp only [XK.ev, Option.some.injEq] at hx; exact hx
  | func f => simp only [XK.ev, Option.some.injEq] at hx; exact hx
theorem OK.evs {dl : List Deferred} {a : Act} {env : List (Nat × Value)} {N : Nat} (h : OK dl a env N) : ∀ {xs : List Operand} {vs : List Value}, evs env xs = some vs → xs.map a.eval = vs
  | [], vs, hx => by simp only [XK.evs, Option.some.injEq] at hx; simpa using hx
  | x :: r, vs, hx => by
    simp only [XK.evs] at hx
    split at hx
    · rename_i v vr h1 h2
      simp only [Option.some.injEq] at hx
      rw [List.map_cons, h.ev h1, h.evs h2, hx]
    · cases hx
theorem OK.pevs {dl : List Deferred} {a : Act} {env : List (Nat × Value)} {N : Nat} (h : OK dl a env N) : ∀ {xs : List (Nat × Operand)} {vs : List (Nat × Value)}, pevs env xs = some vs → (xs.map fun (i, x) => (i, a.eval x)) = vs
  | [], vs, hx => by simp only [XK.pevs, Option.some.injEq] at hx; simpa using hx
  | (i, x) :: r, vs, hx => by
    simp only [XK.pevs] at hx
    split at hx
    · rename_i v vr h1 h2
      simp only [Option.some.injEq] at hx
      rw [List.map_cons, h.pevs h2]
      simp only [h.ev h1]
      exact hx
    · cases hx
/-- The same, whatever has been put off. -/
def OKx (a : Act) (env : List (Nat × Value)) (N : Nat) : Prop := ∃ dl, OK dl a env N
theorem OK.x {dl : List Deferred} {a : Act} {env : List (Nat × Value)} {N : Nat} (h : OK dl a env N) : OKx a env N := ⟨dl, h⟩
theorem OKx.ev {a : Act} {env : List (Nat × Value)} {N : Nat} (h : OKx a env N) {x : Operand} {v : Value} (hx : XK.ev env x = some v) : a.eval x = v := h.elim fun _ h => h.ev hx
theorem OKx.evs {a : Act} {env : List (Nat × Value)} {N : Nat} (h : OKx a env N) {xs : List Operand} {vs : List Value} (hx : XK.evs env xs = some vs) : xs.map a.eval = vs := h.elim fun _ h => h.evs hx
theorem OKx.pevs {a : Act} {env : List (Nat × Value)} {N : Nat} (h : OKx a env N) {xs : List (Nat × Operand)} {vs : List (Nat × Value)} (hx : XK.pevs env xs = some vs) : (xs.map fun (i, x) => (i, a.eval x)) = vs := h.elim fun _ h => h.pevs hx
theorem OK.put {dl : List Deferred} {a : Act} {env : List (Nat × Value)} {N : Nat} (h : OK dl a env N) {d : Option Tmp} (hd : dOK d N = true) (v : Value) : OK dl (a.put d v) (setE env d v) N := by
  cases d with
  | none => exact h
  | some t =>
    have ht : t < a.tmps.size := by
      rw [h.size]
      simpa [dOK] using hd
    refine ⟨by simp [Act.put, h.size], h.defers, fun u x hx => ?_⟩
    simp only [setE, look] at hx
    cases hb : Nat.beq t u with
    | true =>
      have : t = u := Nat.eq_of_beq_eq_true hb
      subst this
      simp only [hb, cond_true, Option.some.injEq] at hx
      simp [Act.put, ht, hx]
    | false =>
      have hne : t ≠ u := fun e => by subst e; simp at hb
      simp only [hb, cond_false] at hx
      have := h.has u x hx
      simp only [Act.put, Array.getD_eq_getD_getElem?, Array.getElem?_setIfInBounds_ne hne] at this ⊢
      exact this
/-- Fewer slots. -/
def sub (env : List (Nat × Value)) : List Nat → Option (List (Nat × Value))
  | [] => some []
  | t :: ts => match look env t, sub env ts with
    | some v, some r => some ((t, v) :: r)
    | _, _ => none
theorem look_sub (env : List (Nat × Value)) : ∀ (ts : List Nat) (r : List (Nat × Value)), sub env ts = some r → ∀ t v, look r t = some v → look env t = some v
  | [], r, h, t, v, hl => by simp only [sub, Option.some.injEq] at h; subst h; cases hl
  | u :: ts, r, h, t, v, hl => by
    simp only [sub] at h
    split at h
    · rename_i x r' h1 h2
      simp only [Option.some.injEq] at h
      subst h
      simp only [look] at hl
      cases hb : Nat.beq u t with
      | true =>
        have : u = t := Nat.eq_of_beq_eq_true hb
        subst this
        simp only [hb, cond_true, Option.some.injEq] at hl
        rw [h1, hl]
      | false =>
        simp only [hb, cond_false] at hl
        exact look_sub env ts r' h2 t v hl
    · cases h
theorem OK.sub {dl : List Deferred} {a : Act} {env env' : List (Nat × Value)} {N : Nat} (h : OK dl a env N) (ts : List Nat) (hs : XK.sub env ts = some env') : OK dl a env' N :=
  ⟨h.size, h.defers, fun t v hl => h.has t v (look_sub env ts env' hs t v hl)⟩

def sel (g : Bool) (v : Value) : Value := bif g then v else undef
theorem sel_of {g : Bool} (h : g = true) (v : Value) : sel g v = v := by rw [h]; rfl
theorem sel_eq {c b : Bool} (h : c = b) (v : Value) : sel (c == b) v = v := by rw [h]; simp [sel]

theorem sel_2 {p q b : Bool} (hp : p = true) (hc : q = b) (v : Value) : sel (p && (q == b)) v = v := by rw [hp, hc]; simp [sel]
theorem sel_in {c b : Bool} (h : c = b) (s : Bool) (v : Value) : sel ((c == b) && s) v = sel s v := by rw [h]; simp [sel]

theorem sel_in2 {p q b : Bool} (hp : p = true) (hc : q = b) (s : Bool) (v : Value) : sel ((p && (q == b)) && s) v = sel s v := by rw [hp, hc]; simp [sel]
theorem sel_up {p s : Bool} (h : (p && s) = true) (v : Value) : sel p v = v := by
  rw [Bool.and_eq_true] at h
  exact sel_of h.1 v

/-! ### One operation -/
section
variable (P : Program)
def Exa (env : List (Nat × Value)) (wc : World) (o : Oper) (v : Value) : Prop := ∀ a N, OKx a env N → ∀ w, Ext wc w → exUpon P v w ((execOp a.eval o).run P w)
def Sil (env : List (Nat × Value)) (o : Oper) (v : Value) : Prop := ∀ a N, OKx a env N → ∀ w, silUpon v w ((execOp a.eval o).run P w)
def Stp (env : List (Nat × Value)) (w : World) (o : Oper) (K : Value → World → Prop) : Prop := ∀ a N, OKx a env N → stUpon P K ((execOp a.eval o).run P w)
/-- What K asks, in every frame that holds env. -/
def EK (dl : List Deferred) (N : Nat) (K : Act → World → Prop) (env : List (Nat × Value)) (wc : World) : Prop := ∀ a, OK dl a env N → K a wc
def ER (ops : Array Oper) (kd : Nat → Nat) (Kf : Act → World → Prop) (dl : List Deferred) (N : Nat) (l : List Nat) (env : List (Nat × Value)) (wc : World) : Prop := ∀ a, OK dl a env N → wpX P ops kd Kf l a wc
end

section
variable {P : Program} {ops : Array Oper} {kd : Nat → Nat} {Kf K : Act → World → Prop} {dl : List Deferred} {N : Nat} {l : List Nat} {env : List (Nat × Value)} {wc : World} {i : Nat} {o : Oper} {v : Value}

theorem ER.nil (h : ∀ w, Ext wc w → ∀ a, OK dl a env N → Kf a w) : ER P ops kd Kf dl N [] env wc := fun a ha w hw => h w hw a ha
theorem ER.sub {env' : List (Nat × Value)} (ts : List Nat) (hs : XK.sub env ts = some env') (h : ER P ops kd Kf dl N l env' wc) : ER P ops kd Kf dl N l env wc := fun a ha => h a (ha.sub ts hs)
theorem EX.ex (ho : ops[i]? = some o) (hg : o.guard = none) (hk : kd i = 0) (hd : dOK o.dst N = true) (hv : Exa P env wc o v) (h : EK dl N K (setE env o.dst v) wc) : EK dl N (xOp P ops kd i K) env wc := by
  intro a ha
  simp only [xOp, ho, Region.wanted, hg, if_true, hk, xKind]
  exact ⟨v, fun w hw => hv a N ha.x w hw, h _ (ha.put hd v)⟩
theorem EX.sil (ho : ops[i]? = some o) (hg : o.guard = none) (hk : kd i = 1) (hd : dOK o.dst N = true) (hv : Sil P env o v) (h : EK dl N K (setE env o.dst v) wc) : EK dl N (xOp P ops kd i K) env wc := by
  intro a ha
  simp only [xOp, ho, Region.wanted, hg, if_true, hk, xKind]
  exact ⟨v, fun w => hv a N ha.x w, h _ (ha.put hd v)⟩
theorem EX.st (ho : ops[i]? = some o) (hg : o.guard = none) (hk : kd i = 2) (hd : dOK o.dst N = true)
    (h : ∀ w, Ext wc w → Stp P env w o (fun v w' => Ext w w' ∧ EK dl N K (setE env o.dst v) w')) : EK dl N (xOp P ops kd i K) env wc := by
  intro a ha
  simp only [xOp, ho, Region.wanted, hg, if_true, hk, xKind]
  exact fun w hw => stUpon_mono (fun v w' ⟨q1, q2⟩ => ⟨q1, q2 _ (ha.put hd v)⟩) (h w hw a N ha.x)
theorem EX.bar (ho : ops[i]? = some o) (hg : o.guard = none) (hk : kd i = 3) (hd : dOK o.dst N = true)
    (h : ∀ w, Ext wc w → Stp P env w o (fun v w' => EK dl N K (setE env o.dst v) w')) : EK dl N (xOp P ops kd i K) env wc := by
  intro a ha
  simp only [xOp, ho, Region.wanted, hg, if_true, hk, xKind]
  exact fun w hw => stUpon_mono (fun v w' q => q _ (ha.put hd v)) (h w hw a N ha.x)

theorem yielded_of {a : Act} (ha : OK dl a env N) {g t : Nat} {c : Bool} (hgd : (ops[g]?).bind (·.dst) = some t) (hc : look env t = some (.bool c)) : yielded ops a.tmps g = some c := by
  have h := ha.has t _ hc
  unfold yielded
  rw [hgd]
  simp only [Option.bind_some]
  rw [Array.getD_eq_getD_getElem?] at h
  cases hq : a.tmps[t]? with
  | none => rw [hq] at h; simp [undef] at h
  | some u => rw [hq] at h; simp only [Option.getD_some] at h; rw [h]
theorem wanted_of {a : Act} (ha : OK dl a env N) {g t : Nat} {b c : Bool} (hg : o.guard = some (g, b)) (hgd : (ops[g]?).bind (·.dst) = some t) (hc : look env t = some (.bool c)) :
    Region.wanted o (yielded ops a.tmps) = (c == b) := by
  simp only [Region.wanted, hg, yielded_of ha hgd hc]
  cases c <;> cases b <;> rfl
theorem EX.exG {g t : Nat} {b c : Bool} (ho : ops[i]? = some o) (hg : o.guard = some (g, b)) (hgd : (ops[g]?).bind (·.dst) = some t) (hc : look env t = some (.bool c)) (hk : kd i = 0) (hd : dOK o.dst N = true)
    (hv : c = b → Exa P env wc o v) (h : EK dl N K (setE env o.dst (sel (c == b) v)) wc) : EK dl N (xOp P ops kd i K) env wc := by
  intro a ha
  simp only [xOp, ho, wanted_of ha hg hgd hc, hk]
  by_cases hcb : c = b
  · subst hcb
    simp only [beq_self_eq_true, if_true, xKind]
    exact ⟨v, fun w hw => hv rfl a N ha.x w hw, by simpa [sel] using h _ (ha.put hd (sel (c == c) v))⟩
  · have hf : (c == b) = false := by simpa using hcb
    simp only [hf, Bool.false_eq_true, if_false]
    simpa [sel, hf] using h _ (ha.put hd (sel (c == b) v))
theorem EX.silG {g t : Nat} {b c : Bool} (ho : ops[i]? = some o) (hg : o.guard = some (g, b)) (hgd : (ops[g]?).bind (·.dst) = some t) (hc : look env t = some (.bool c)) (hk : kd i = 1) (hd : dOK o.dst N = true)
    (hv : c = b → Sil P env o v) (h : EK dl N K (setE env o.dst (sel (c == b) v)) wc) : EK dl N (xOp P ops kd i K) env wc := by
  intro a ha
  simp only [xOp, ho, wanted_of ha hg hgd hc, hk]
  by_cases hcb : c = b
  · subst hcb
    simp only [beq_self_eq_true, if_true, xKind]
    exact ⟨v, fun w => hv rfl a N ha.x w, by simpa [sel] using h _ (ha.put hd (sel (c == c) v))⟩
  · have hf : (c == b) = false := by simpa using hcb
    simp only [hf, Bool.false_eq_true, if_false]
    simpa [sel, hf] using h _ (ha.put hd (sel (c == b) v))
theorem yielded_sel {a : Act} (ha : OK dl a env N) {g t : Nat} {p q : Bool} (hgd : (ops[g]?).bind (·.dst) = some t) (hc : look env t = some (sel p (.bool q))) : yielded ops a.tmps g = bif p then some q else none := by
  have h := ha.has t _ hc
  cases p with
  | true => exact yielded_of ha hgd hc
  | false =>
    unfold yielded
    rw [hgd]
    simp only [Option.bind_some]
    rw [Array.getD_eq_getD_getElem?] at h
    cases hq : a.tmps[t]? with
    | none => rfl
    | some u => rw [hq] at h; simp only [Option.getD_some, sel, cond_false] at h; rw [h]; rfl
theorem wanted_sel {a : Act} (ha : OK dl a env N) {g t : Nat} {b p q : Bool} (hg : o.guard = some (g, b)) (hgd : (ops[g]?).bind (·.dst) = some t) (hc : look env t = some (sel p (.bool q))) :
    Region.wanted o (yielded ops a.tmps) = (p && (q == b)) := by
  simp only [Region.wanted, hg, yielded_sel ha hgd hc]
  cases p <;> cases q <;> cases b <;> rfl
theorem EX.exGG {g t : Nat} {b p q : Bool} (ho : ops[i]? = some o) (hg : o.guard = some (g, b)) (hgd : (ops[g]?).bind (·.dst) = some t) (hc : look env t = some (sel p (.bool q))) (hk : kd i = 0) (hd : dOK o.dst N = true)
    (hv : p = true → q = b → Exa P env wc o v) (h : EK dl N K (setE env o.dst (sel (p && (q == b)) v)) wc) : EK dl N (xOp P ops kd i K) env wc := by
  intro a ha
  simp only [xOp, ho, wanted_sel ha hg hgd hc, hk]
  by_cases hcb : (p && (q == b)) = true
  · simp only [hcb, if_true, xKind]
    have h2 := h _ (ha.put hd (sel (p && (q == b)) v))
    rw [sel_of hcb] at h2
    simp only [Bool.and_eq_true, beq_iff_eq] at hcb
    exact ⟨v, fun w hw => hv hcb.1 hcb.2 a N ha.x w hw, h2⟩
  · have hf : (p && (q == b)) = false := by simpa using hcb
    simp only [hf, Bool.false_eq_true, if_false]
    have h2 := h _ (ha.put hd (sel (p && (q == b)) v))
    rw [hf] at h2
    exact h2
theorem EX.silGG {g t : Nat} {b p q : Bool} (ho : ops[i]? = some o) (hg : o.guard = some (g, b)) (hgd : (ops[g]?).bind (·.dst) = some t) (hc : look env t = some (sel p (.bool q))) (hk : kd i = 1) (hd : dOK o.dst N = true)
    (hv : p = true → q = b → Sil P env o v) (h : EK dl N K (setE env o.dst (sel (p && (q == b)) v)) wc) : EK dl N (xOp P ops kd i K) env wc := by
  intro a ha
  simp only [xOp, ho, wanted_sel ha hg hgd hc, hk]
  by_cases hcb : (p && (q == b)) = true
  · simp only [hcb, if_true, xKind]
    have h2 := h _ (ha.put hd (sel (p && (q == b)) v))
    rw [sel_of hcb] at h2
    simp only [Bool.and_eq_true, beq_iff_eq] at hcb
    exact ⟨v, fun w => hv hcb.1 hcb.2 a N ha.x w, h2⟩
  · have hf : (p && (q == b)) = false := by simpa using hcb
    simp only [hf, Bool.false_eq_true, if_false]
    have h2 := h _ (ha.put hd (sel (p && (q == b)) v))
    rw [hf] at h2
    exact h2
theorem EX.skipG {g t : Nat} {b c : Bool} (ho : ops[i]? = some o) (hg : o.guard = some (g, b)) (hgd : (ops[g]?).bind (·.dst) = some t) (hc : look env t = some (.bool c)) (hcb : (c == b) = false) (hd : dOK o.dst N = true)
    (h : EK dl N K (setE env o.dst undef) wc) : EK dl N (xOp P ops kd i K) env wc := by
  intro a ha
  simp only [xOp, ho, wanted_of ha hg hgd hc, hcb, Bool.false_eq_true, if_false]
  exact h _ (ha.put hd undef)
theorem EX.exD {g t : Nat} {b c : Bool} (ho : ops[i]? = some o) (hg : o.guard = some (g, b)) (hgd : (ops[g]?).bind (·.dst) = some t) (hc : look env t = some (.bool c)) (hcb : (c == b) = true) (hk : kd i = 0) (hd : dOK o.dst N = true)
    (hv : Exa P env wc o v) (h : EK dl N K (setE env o.dst v) wc) : EK dl N (xOp P ops kd i K) env wc := by
  intro a ha
  simp only [xOp, ho, wanted_of ha hg hgd hc, hcb, if_true, hk, xKind]
  exact ⟨v, fun w hw => hv a N ha.x w hw, h _ (ha.put hd v)⟩
theorem EX.silD {g t : Nat} {b c : Bool} (ho : ops[i]? = some o) (hg : o.guard = some (g, b)) (hgd : (ops[g]?).bind (·.dst) = some t) (hc : look env t = some (.bool c)) (hcb : (c == b) = true) (hk : kd i = 1) (hd : dOK o.dst N = true)
    (hv : Sil P env o v) (h : EK dl N K (setE env o.dst v) wc) : EK dl N (xOp P ops kd i K) env wc := by
  intro a ha
  simp only [xOp, ho, wanted_of ha hg hgd hc, hcb, if_true, hk, xKind]
  exact ⟨v, fun w => hv a N ha.x w, h _ (ha.put hd v)⟩
theorem EX.stG {g t : Nat} {b c : Bool} (ho : ops[i]? = some o) (hg : o.guard = some (g, b)) (hgd : (ops[g]?).bind (·.dst) = some t) (hc : look env t = some (.bool c)) (hcb : (c == b) = true) (hk : kd i = 2) (hd : dOK o.dst N = true)
    (h : ∀ w, Ext wc w → Stp P env w o (fun v w' => Ext w w' ∧ EK dl N K (setE env o.dst v) w')) : EK dl N (xOp P ops kd i K) env wc := by
  intro a ha
  simp only [xOp, ho, wanted_of ha hg hgd hc, hcb, if_true, hk, xKind]
  exact fun w hw => stUpon_mono (fun v w' ⟨q1, q2⟩ => ⟨q1, q2 _ (ha.put hd v)⟩) (h w hw a N ha.x)

theorem EX.barG {g t : Nat} {b c : Bool} (ho : ops[i]? = some o) (hg : o.guard = some (g, b)) (hgd : (ops[g]?).bind (·.dst) = some t) (hc : look env t = some (.bool c)) (hcb : (c == b) = true) (hk : kd i = 3) (hd : dOK o.dst N = true)
    (h : ∀ w, Ext wc w → Stp P env w o (fun v w' => EK dl N K (setE env o.dst v) w')) : EK dl N (xOp P ops kd i K) env wc := by
  intro a ha
  simp only [xOp, ho, wanted_of ha hg hgd hc, hcb, if_true, hk, xKind]
  exact fun w hw => stUpon_mono (fun v w' q => q _ (ha.put hd v)) (h w hw a N ha.x)

theorem ER.ex (ho : ops[i]? = some o) (hg : o.guard = none) (hk : kd i = 0) (hd : dOK o.dst N = true) (hv : Exa P env wc o v) (h : ER P ops kd Kf dl N l (setE env o.dst v) wc) : ER P ops kd Kf dl N (i :: l) env wc :=
  EX.ex (K := wpX P ops kd Kf l) ho hg hk hd hv h
theorem ER.sil (ho : ops[i]? = some o) (hg : o.guard = none) (hk : kd i = 1) (hd : dOK o.dst N = true) (hv : Sil P env o v) (h : ER P ops kd Kf dl N l (setE env o.dst v) wc) : ER P ops kd Kf dl N (i :: l) env wc :=
  EX.sil (K := wpX P ops kd Kf l) ho hg hk hd hv h
theorem ER.st (ho : ops[i]? = some o) (hg : o.guard = none) (hk : kd i = 2) (hd : dOK o.dst N = true)
    (h : ∀ w, Ext wc w → Stp P env w o (fun v w' => Ext w w' ∧ ER P ops kd Kf dl N l (setE env o.dst v) w')) : ER P ops kd Kf dl N (i :: l) env wc :=
  EX.st (K := wpX P ops kd Kf l) ho hg hk hd h
theorem ER.bar (ho : ops[i]? = some o) (hg : o.guard = none) (hk : kd i = 3) (hd : dOK o.dst N = true)
    (h : ∀ w, Ext wc w → Stp P env w o (fun v w' => ER P ops kd Kf dl N l (setE env o.dst v) w')) : ER P ops kd Kf dl N (i :: l) env wc :=
  EX.bar (K := wpX P ops kd Kf l) ho hg hk hd h
theorem ER.exG {g t : Nat} {b c : Bool} (ho : ops[i]? = some o) (hg : o.guard = some (g, b)) (hgd : (ops[g]?).bind (·.dst) = some t) (hc : look env t = some (.bool c)) (hk : kd i = 0) (hd : dOK o.dst N = true)
    (hv : c = b → Exa P env wc o v) (h : ER P ops kd Kf dl N l (setE env o.dst (sel (c == b) v)) wc) : ER P ops kd Kf dl N (i :: l) env wc :=
  EX.exG (K := wpX P ops kd Kf l) ho hg hgd hc hk hd hv h
theorem ER.silG {g t : Nat} {b c : Bool} (ho : ops[i]? = some o) (hg : o.guard = some (g, b)) (hgd : (ops[g]?).bind (·.dst) = some t) (hc : look env t = some (.bool c)) (hk : kd i = 1) (hd : dOK o.dst N = true)
    (hv : c = b → Sil P env o v) (h : ER P ops kd Kf dl N l (setE env o.dst (sel (c == b) v)) wc) : ER P ops kd Kf dl N (i :: l) env wc :=
  EX.silG (K := wpX P ops kd Kf l) ho hg hgd hc hk hd hv h
theorem ER.exGG {g t : Nat} {b p q : Bool} (ho : ops[i]? = some o) (hg : o.guard = some (g, b)) (hgd : (ops[g]?).bind (·.dst) = some t) (hc : look env t = some (sel p (.bool q))) (hk : kd i = 0) (hd : dOK o.dst N = true)
    (hv : p = true → q = b → Exa P env wc o v) (h : ER P ops kd Kf dl N l (setE env o.dst (sel (p && (q == b)) v)) wc) : ER P ops kd Kf dl N (i :: l) env wc :=
  EX.exGG (K := wpX P ops kd Kf l) ho hg hgd hc hk hd hv h
theorem ER.silGG {g t : Nat} {b p q : Bool} (ho : ops[i]? = some o) (hg : o.guard = some (g, b)) (hgd : (ops[g]?).bind (·.dst) = some t) (hc : look env t = some (sel p (.bool q))) (hk : kd i = 1) (hd : dOK o.dst N = true)
    (hv : p = true → q = b → Sil P env o v) (h : ER P ops kd Kf dl N l (setE env o.dst (sel (p && (q == b)) v)) wc) : ER P ops kd Kf dl N (i :: l) env wc :=
  EX.silGG (K := wpX P ops kd Kf l) ho hg hgd hc hk hd hv h
theorem ER.exD {g t : Nat} {b c : Bool} (ho : ops[i]? = some o) (hg : o.guard = some (g, b)) (hgd : (ops[g]?).bind (·.dst) = some t) (hc : look env t = some (.bool c)) (hcb : (c == b) = true) (hk : kd i = 0) (hd : dOK o.dst N = true)
    (hv : Exa P env wc o v) (h : ER P ops kd Kf dl N l (setE env o.dst v) wc) : ER P ops kd Kf dl N (i :: l) env wc := EX.exD (K := wpX P ops kd Kf l) ho hg hgd hc hcb hk hd hv h
theorem ER.silD {g t : Nat} {b c : Bool} (ho : ops[i]? = some o) (hg : o.guard = some (g, b)) (hgd : (ops[g]?).bind (·.dst) = some t) (hc : look env t = some (.bool c)) (hcb : (c == b) = true) (hk : kd i = 1) (hd : dOK o.dst N = true)
    (hv : Sil P env o v) (h : ER P ops kd Kf dl N l (setE env o.dst v) wc) : ER P ops kd Kf dl N (i :: l) env wc := EX.silD (K := wpX P ops kd Kf l) ho hg hgd hc hcb hk hd hv h
theorem ER.skipG {g t : Nat} {b c : Bool} (ho : ops[i]? = some o) (hg : o.guard = some (g, b)) (hgd : (ops[g]?).bind (·.dst) = some t) (hc : look env t = some (.bool c)) (hcb : (c == b) = false) (hd : dOK o.dst N = true)
    (h : ER P ops kd Kf dl N l (setE env o.dst undef) wc) : ER P ops kd Kf dl N (i :: l) env wc :=
  EX.skipG (K := wpX P ops kd Kf l) ho hg hgd hc hcb hd h
theorem ER.barG {g t : Nat} {b c : Bool} (ho : ops[i]? = some o) (hg : o.guard = some (g, b)) (hgd : (ops[g]?).bind (·.dst) = some t) (hc : look env t = some (.bool c)) (hcb : (c == b) = true) (hk : kd i = 3) (hd : dOK o.dst N = true)
    (h : ∀ w, Ext wc w → Stp P env w o (fun v w' => ER P ops kd Kf dl N l (setE env o.dst v) w')) : ER P ops kd Kf dl N (i :: l) env wc :=
  EX.barG (K := wpX P ops kd Kf l) ho hg hgd hc hcb hk hd h
theorem ER.stG {g t : Nat} {b c : Bool} (ho : ops[i]? = some o) (hg : o.guard = some (g, b)) (hgd : (ops[g]?).bind (·.dst) = some t) (hc : look env t = some (.bool c)) (hcb : (c == b) = true) (hk : kd i = 2) (hd : dOK o.dst N = true)
    (h : ∀ w, Ext wc w → Stp P env w o (fun v w' => Ext w w' ∧ ER P ops kd Kf dl N l (setE env o.dst v) w')) : ER P ops kd Kf dl N (i :: l) env wc :=
  EX.stG (K := wpX P ops kd Kf l) ho hg hgd hc hcb hk hd h
theorem Sil.exa (h : Sil P env o v) : Exa P env wc o v := fun a N ha w _ => by
  have h1 := h a N ha w
  generalize (execOp a.eval o).run P w = r at *
  cases r with
  | ok n w' =>
    cases n <;> simp only [silUpon] at h1
    case value u => obtain ⟨rfl, rfl⟩ := h1; exact ⟨rfl, Ext.refl _⟩
  | halt x w' => simp only [silUpon] at h1
end

/-! ### A region whose loud operations may come in several orders -/
section
variable (P : Program)
def EA (ops : Array Oper) (kd : Nat → Nat) (Kf : Act → World → Prop) (dl : List Deferred) (N : Nat) (f : Nat) (listed : Array Bool) (env : List (Nat × Value)) (wc : World) : Prop := Closed .any ops listed → ∀ a, OK dl a env N → AnyX P ops .any kd Kf f listed a wc
end
def takeOK (ops : Array Oper) (kd : Nat → Nat) (listed : Array Bool) (i : Nat) : Bool :=
  Region.noSelect ops && Nat.ble (kd i) 1 && (Region.ready .any ops listed).contains i && Region.free .any ops listed i && (kd i == 1 || barsOk ops .any kd listed i)
section
variable {P : Program} {ops : Array Oper} {kd : Nat → Nat} {Kf : Act → World → Prop} {dl : List Deferred} {N f : Nat} {listed : Array Bool} {env : List (Nat × Value)} {wc : World}
theorem EA.take (i : Nat) (hc : takeOK ops kd listed i = true) (h : Closed .any ops (listed.setIfInBounds i true) → EK dl N (xOp P ops kd i (AnyX P ops .any kd Kf f (listed.setIfInBounds i true))) env wc) : EA P ops kd Kf dl N (f + 1) listed env wc := by
  intro hcl a ha
  simp only [takeOK, Bool.and_eq_true] at hc
  obtain ⟨⟨⟨⟨h1, h2⟩, h3⟩, h4⟩, h5⟩ := hc
  have hr : i ∈ Region.ready .any ops listed := by simpa using h3
  obtain ⟨_, oi, hoi, _⟩ := mem_ready.1 hr
  exact AnyX_take h1 hcl hoi (by simpa using h2) h3 h4 h5 (h (hcl.set hr) a ha)
theorem EA.only (i : Nat) (hr : Region.ready .any ops listed = [i]) (h : Closed .any ops (listed.setIfInBounds i true) → EK dl N (xOp P ops kd i (AnyX P ops .any kd Kf f (listed.setIfInBounds i true))) env wc) : EA P ops kd Kf dl N (f + 1) listed env wc := by
  intro hcl a ha
  refine AnyX_all hr (by simp) fun k hk => ?_
  have hki : k = i := by simpa using hk
  subst hki
  exact h (hcl.set (by rw [hr]; simp)) a ha
theorem EA.two (i j : Nat) (hr : Region.ready .any ops listed = [i, j]) (h1 : Closed .any ops (listed.setIfInBounds i true) → EK dl N (xOp P ops kd i (AnyX P ops .any kd Kf f (listed.setIfInBounds i true))) env wc)
    (h2 : Closed .any ops (listed.setIfInBounds j true) → EK dl N (xOp P ops kd j (AnyX P ops .any kd Kf f (listed.setIfInBounds j true))) env wc) : EA P ops kd Kf dl N (f + 1) listed env wc := by
  intro hcl a ha
  refine AnyX_all hr (by simp) fun k hk => ?_
  have hk2 : k = i ∨ k = j := by simpa using hk
  rcases hk2 with rfl | rfl
  · exact h1 (hcl.set (by rw [hr]; simp)) a ha
  · exact h2 (hcl.set (by rw [hr]; simp)) a ha
theorem EA.nil (hr : Region.ready .any ops listed = []) (h : ∀ w, Ext wc w → ∀ a, OK dl a env N → Kf a w) : EA P ops kd Kf dl N 0 listed env wc := fun _ a ha => ⟨hr, fun w hw => h w hw a ha⟩
theorem EA.back (hc : Closed .any ops listed) (h : EA P ops kd Kf dl N f listed env wc) : EK dl N (AnyX P ops .any kd Kf f listed) env wc := h hc
end

/-! ### Code -/
section
variable (P : Program) (ro : Option Nat) (dl : List Deferred)
def EC (c : Code) (Q : Exit → Act → World → Prop) (N : Nat) (env : List (Nat × Value)) (w : World) : Prop := ∀ a, OK dl a env N → c.wpIn (FR ro) 0 P Q a w
end
def AQ (dl : List Deferred) (e : Exit) (Q : Exit → Act → World → Prop) (N : Nat) (env : List (Nat × Value)) (w : World) : Prop := ∀ a, OK dl a env N → Q e a w
section
variable {P : Program} {ro : Option Nat} {dl : List Deferred} {Q : Exit → Act → World → Prop} {N : Nat} {env : List (Nat × Value)} {w : World}
theorem EC.seq {x y : Code} (h : EC P ro dl x (Exit.then (y.wpIn (FR ro) 0 P Q) Q) N env w) : EC P ro dl (.seq x y) Q N env w := fun a ha => wpIn_seq (h a ha)
theorem AQ.then {y : Code} (h : EC P ro dl y Q N env w) : AQ dl .normal (Exit.then (y.wpIn (FR ro) 0 P Q) Q) N env w := h
theorem AQ.thenExit {K : Act → World → Prop} {id : Nat} (h : AQ dl (.exit id) Q N env w) : AQ dl (.exit id) (Exit.then K Q) N env w := h
theorem AQ.thenRet {K : Act → World → Prop} (h : AQ dl .ret Q N env w) : AQ dl .ret (Exit.then K Q) N env w := h
theorem AQ.blockNormal {id : Nat} (h : AQ dl .normal Q N env w) : AQ dl .normal (Exit.inBlock id Q) N env w := h
theorem AQ.blockRet {id : Nat} (h : AQ dl .ret Q N env w) : AQ dl .ret (Exit.inBlock id Q) N env w := h
theorem AQ.blockHit {id : Nat} (h : AQ dl .normal Q N env w) : AQ dl (.exit id) (Exit.inBlock id Q) N env w := fun a ha => by simp only [Exit.inBlock, if_true]; exact h a ha
theorem AQ.blockPass {id id' : Nat} (hne : Nat.beq id' id = false) (h : AQ dl (.exit id') Q N env w) : AQ dl (.exit id') (Exit.inBlock id Q) N env w := fun a ha => by
  have : id' ≠ id := fun e => by subst e; simp at hne
  simp only [Exit.inBlock, this, if_false]; exact h a ha
theorem EC.skip (h : AQ dl .normal Q N env w) : EC P ro dl .skip Q N env w := fun a ha => wpIn_skip (h a ha)
theorem EC.ret (h : AQ dl .ret Q N env w) : EC P ro dl .ret Q N env w := fun a ha => wpIn_ret (h a ha)
theorem EC.exit {id : Nat} (h : AQ dl (.exit id) Q N env w) : EC P ro dl (.exit id) Q N env w := fun a ha => wpIn_exit (h a ha)
theorem EC.block {id : Nat} {c : Code} (h : EC P ro dl c (Exit.inBlock id Q) N env w) : EC P ro dl (.block id c) Q N env w := fun a ha => wpIn_block (h a ha)
theorem EC.cond {c : Operand} {x y : Code} {t : Bool} (hc : ev env c = some (.bool t)) (ht : t = true → EC P ro dl x Q N env w) (hf : t = false → EC P ro dl y Q N env w) : EC P ro dl (.cond c x y) Q N env w :=
  fun a ha => wpIn_cond_split (ha.ev hc) (fun h => ht h a ha) (fun h => hf h a ha)
theorem EC.region {id : Nat} {ops : Array Oper} (kd : Nat → Nat) (l : List Nat) (hl : List.range ops.size = l) (h : ER P ops kd (Q .normal) dl N l env w) : EC P ro dl (.region id ops false) Q N env w :=
  fun a ha => region_seq kd (by rw [hl]; exact h a ha)
theorem EC.draw {id : Nat} {ops : Array Oper} (kd : Nat → Nat) (l : List Nat) (hm : P.follows .mixedOrders = true) (hB : okX .any ops kd l = true) (h : ER P ops kd (Q .normal) dl N l env w) : EC P ro dl (.region id ops true) Q N env w :=
  fun a ha => region_draw l kd hm hB (h a ha)
theorem EC.drawA {id : Nat} {ops : Array Oper} (kd : Nat → Nat) (hm : P.follows .mixedOrders = true) (n : Nat) (hn : ops.size = n) (h : EA P ops kd (Q .normal) dl N n (Array.replicate n false) env w) : EC P ro dl (.region id ops true) Q N env w := by
  subst hn
  exact fun a ha => region_drawA kd hm (h (closed_start _) a ha)
theorem EC.sub {env' : List (Nat × Value)} {c : Code} (ts : List Nat) (hs : XK.sub env ts = some env') (h : EC P ro dl c Q N env' w) : EC P ro dl c Q N env w := fun a ha => h a (ha.sub ts hs)
theorem AQ.sub {env' : List (Nat × Value)} {e : Exit} (ts : List Nat) (hs : XK.sub env ts = some env') (h : AQ dl e Q N env' w) : AQ dl e Q N env w := fun a ha => h a (ha.sub ts hs)

/-- A loop: σ names what a round's head knows. -/
theorem EC.loop {σ : Type} {c : Code} (E : σ → List (Nat × Value)) (F : σ → World → Prop) (μ : σ → Nat) (s0 : σ) (ts : List Nat) (h0 : XK.sub env ts = some (E s0)) (hF : F s0 w)
    (round : ∀ s w, F s w → EC P ro dl c (Exit.then (fun a' w' => ∃ s', OK dl a' (E s') N ∧ F s' w' ∧ μ s' < μ s) Q) N (E s) w) : EC P ro dl (.loop c) Q N env w := by
  intro a ha b k cs hro hb hr
  have key : ∀ n s a1 w, μ s = n → OK dl a1 (E s) N → F s w →
      ∃ e a' w', Q e a' w' ∧ ArrivesIn (Machine.fenced P (FR ro)) P (lone (b.atR a1 (.code c :: .inLoop c :: k)) cs w) b k cs e a' w' := by
    intro n
    induction n using Nat.strongRecOn with
    | _ n ih =>
      intro s a w hn hO hI
      obtain ⟨e, a₁, w₁, hq, harr⟩ := round s w hI a hO b (.inLoop c :: k) cs hro hb hr
      cases e with
      | normal =>
        obtain ⟨s', hO', hI₁, hlt⟩ := hq
        obtain ⟨e₂, a₂, w₂, hq₂, harr₂⟩ := ih (μ s') (hn ▸ hlt) s' a₁ w₁ rfl hO' hI₁
        exact ⟨e₂, a₂, w₂, hq₂, .of_steps (StepsIn.trans harr (.one (fenced_calm hb hr rfl) stepR_inLoop)) harr₂⟩
      | exit id => exact ⟨_, a₁, w₁, hq, .pass (x := .inLoop c) rfl (fun _ _ => .inl (by simp)) harr⟩
      | goto l => exact ⟨_, a₁, w₁, hq, .pass (x := .inLoop c) rfl (fun _ _ => .inl (by simp)) harr⟩
      | ret => exact ⟨_, a₁, w₁, hq, .pass (x := .inLoop c) rfl (fun _ _ => .inl (by simp)) harr⟩
      | panic ch => exact ⟨_, a₁, w₁, hq, .pass (x := .inLoop c) rfl (fun _ _ => .inl (by simp)) harr⟩
      | outgrown => exact ⟨_, a₁, w₁, hq, .pass (x := .inLoop c) rfl (fun _ _ => .inl (by simp)) harr⟩
  obtain ⟨e, a', w', hq, harr⟩ := key _ s0 a w rfl (ha.sub ts h0) hF
  exact ⟨e, a', w', hq, .of_steps (.one (fenced_calm hb hr rfl) stepR_loop) harr⟩
theorem AQ.round {σ : Type} {E : σ → List (Nat × Value)} {F : σ → World → Prop} {μ : σ → Nat} {s : σ} (s' : σ) (ts : List Nat) (h0 : XK.sub env ts = some (E s')) (hF : F s' w) (hm : μ s' < μ s) :
    AQ dl .normal (Exit.then (fun a' w' => ∃ s', OK dl a' (E s') N ∧ F s' w' ∧ μ s' < μ s) Q) N env w := fun _ ha => ⟨s', ha.sub ts h0, hF, hm⟩

/-- Two ways meet: σ names what is known where they meet. -/
theorem EC.join {σ : Type} {x y : Code} (E : σ → List (Nat × Value)) (F : σ → World → Prop) (hx : EC P ro dl x (Exit.then (fun a' w' => ∃ s, OK dl a' (E s) N ∧ F s w') Q) N env w) (hy : ∀ s w, F s w → EC P ro dl y Q N (E s) w) : EC P ro dl (.seq x y) Q N env w := fun a ha => by
  refine wpIn_seq (wpIn_mono (hx a ha) fun e a' w' h => ?_)
  cases e with
  | normal => obtain ⟨s, h1, h2⟩ := h; exact hy s w' h2 a' h1
  | exit id => exact h
  | goto l => exact h
  | ret => exact h
  | panic ch => exact h
  | outgrown => exact h
theorem AQ.join {σ : Type} {E : σ → List (Nat × Value)} {F : σ → World → Prop} (s : σ) (ts : List Nat) (h0 : XK.sub env ts = some (E s)) (hF : F s w) : AQ dl .normal (Exit.then (fun a' w' => ∃ s, OK dl a' (E s) N ∧ F s w') Q) N env w := fun _ ha => ⟨s, ha.sub ts h0, hF⟩

/-- A call: the slots of the parameters. -/
def envOf : Nat → List Value → List (Nat × Value)
  | _, [] => []
  | k, v :: r => (k, v) :: envOf (k + 1) r
theorem look_envOf : ∀ (vs : List Value) (k t : Nat) (v : Value), look (envOf k vs) t = some v → k ≤ t ∧ vs[t - k]? = some v
  | [], _, _, _, h => by cases h
  | u :: r, k, t, v, h => by
    simp only [envOf, look] at h
    cases hb : Nat.beq k t with
    | true =>
      have : k = t := Nat.eq_of_beq_eq_true hb
      subst this
      simp only [hb, cond_true, Option.some.injEq] at h
      simp [h]
    | false =>
      have hne : k ≠ t := fun e => by subst e; simp at hb
      simp only [hb, cond_false] at h
      obtain ⟨h1, h2⟩ := look_envOf r (k + 1) t v h
      refine ⟨by omega, ?_⟩
      rw [show t - k = (t - (k + 1)) + 1 by omega, List.getElem?_cons_succ]
      exact h2
theorem calls_of {P : Program} {f : FuncId} {fn : Func} {c : Code} {args : List Value} {w : World} {R : Ending → World → Prop} {N : Nat}
    (hf : P.funcs[f]? = some fn) (hb : fn.body = some c) (hn : fn.ntmps = N) (ha : Nat.ble args.length N = true)
    (h : EC P none [] c (bodyPost P fn R) N (envOf 0 args) w) : Calls P f args.toArray w R := by
  refine calls_of_wp hf hb (wpIn_wide.1 (h _ ⟨?_, rfl, fun t v hl => ?_⟩))
  · have : args.length ≤ N := by simpa using ha
    simp [hn]
    omega
  · obtain ⟨_, h2⟩ := look_envOf args 0 t v hl
    have ht : t < args.length := by
      rcases Nat.lt_or_ge t args.length with h' | h'
      · exact h'
      · rw [Nat.sub_zero, List.getElem?_eq_none h'] at h2; cases h2
    rw [Nat.sub_zero] at h2
    rw [Array.getD_eq_getD_getElem?, Array.getElem?_append, if_pos (by simpa using ht)]
    simp [h2]
theorem AQ.ret1 {fn : Func} {R : Ending → World → Prop} {t : Nat} {v : Value} (hr : fn.results = #[.tmp t]) (hl : look env t = some v) (h : R (.returned v) w) : AQ [] .ret (bodyPost P fn R) N env w :=
  fun a ha => bodyPost_ret (results_tmp hr _ _ _) ha.defers (by rw [ha.has t v hl]; exact h)
theorem AQ.ret2 {fn : Func} {R : Ending → World → Prop} {t u : Nat} {v x : Value} (hr : fn.results = #[.tmp t, .tmp u]) (hl : look env t = some v) (hl' : look env u = some x) (h : R (.returned (.tuple #[v, x])) w) : AQ [] .ret (bodyPost P fn R) N env w :=
  fun a ha => bodyPost_ret (results_tmp2 hr _ _ _) ha.defers (by rw [ha.has t v hl, ha.has u x hl']; exact h)
theorem AQ.ret0 {fn : Func} {R : Ending → World → Prop} (hr : fn.results = #[]) (h : R (.returned (.tuple #[])) w) : AQ [] .normal (bodyPost P fn R) N env w :=
  fun _ ha => bodyPost_end (results_none hr _ _ _) ha.defers h
theorem AQ.ret0' {fn : Func} {R : Ending → World → Prop} (hr : fn.results = #[]) (h : R (.returned (.tuple #[])) w) : AQ [] .ret (bodyPost P fn R) N env w :=
  fun _ ha => bodyPost_ret (results_none hr _ _ _) ha.defers h
end
end Go.XK
