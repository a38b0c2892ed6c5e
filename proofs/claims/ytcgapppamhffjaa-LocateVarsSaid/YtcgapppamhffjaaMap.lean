/- Maps that the call itself made: a map's block as a list of keys and values; the laws of its operations. -/
import Derived.Test.YtcgapppamhffjaaOps
import Derived.RangeFuncRecord
namespace Go.XK
open Go.RowKit

/-- Keys of type kt are the values enc a. -/
structure KeyOK (P : Program) (kt : TypeId) {α : Type} [DecidableEq α] (enc : α → Value) : Prop where
  now : ∃ D, P.underlying kt = some D ∧ (∀ a b, Instr.sameNow D (enc a) (enc b) = some (a == b)) ∧ ∀ (emp : Bool) (n : Nat) (a : α) (w : World), (Instr.checkKey emp (n + 1) kt (enc a)).run P w = .ok () w
  bits : ∀ a, Instr.sameBits 10000 (enc a) (enc a) = true
theorem KeyOK.int {P : Program} {kt : TypeId} (h : P.underlying kt = some (.int .i64)) : KeyOK P kt (fun n : Int => Value.int .i64 n) :=
  ⟨⟨_, h, fun a b => by simp [Instr.sameNow], fun emp n a w => by simp [Instr.checkKey, run_underlying h]⟩, fun a => by simp [Instr.sameBits]⟩
theorem bytes_beq (a b : ByteArray) : @BEq.beq ByteArray ByteArray.instBEq a b = decide (a = b) := by
  obtain ⟨a⟩ := a
  obtain ⟨b⟩ := b
  have h : @BEq.beq ByteArray ByteArray.instBEq ⟨a⟩ ⟨b⟩ = (a == b) := rfl
  rw [h, Bool.eq_iff_iff, beq_iff_eq, decide_eq_true_eq, ByteArray.mk.injEq]
theorem KeyOK.str {P : Program} {kt : TypeId} (h : P.underlying kt = some .string) : KeyOK P kt (fun s : ByteArray => Value.string s) :=
  ⟨⟨_, h, fun a b => by simp only [Instr.sameNow, bytes_beq]; rfl, fun emp n a w => by simp [Instr.checkKey, run_underlying h]⟩, fun a => by simp only [Instr.sameBits, bytes_beq, decide_true]⟩

section
variable {α : Type}
def mfind [DecidableEq α] : List (α × Value) → α → Option (Nat × Value)
  | [], _ => none
  | (a, u) :: r, k => if (k == a) = true then some (0, u) else (mfind r k).map fun p => (p.1 + 1, p.2)
def mget [DecidableEq α] (m : List (α × Value)) (k : α) : Option Value := (mfind m k).map (·.2)
def mput [DecidableEq α] : List (α × Value) → α → Value → List (α × Value)
  | [], k, v => [(k, v)]
  | (a, u) :: r, k, v => if (k == a) = true then (k, v) :: r else (a, u) :: mput r k v
theorem mget_nil [DecidableEq α] (k : α) : mget [] k = none := rfl
theorem mget_cons [DecidableEq α] (a : α) (u : Value) (r : List (α × Value)) (k : α) : mget ((a, u) :: r) k = if k = a then some u else mget r k := by
  unfold mget
  rw [show mfind ((a, u) :: r) k = if (k == a) = true then some (0, u) else (mfind r k).map fun p => (p.1 + 1, p.2) from rfl]
  by_cases h : k = a
  · simp [h]
  · rw [if_neg (by simpa using h), if_neg h]
    cases mfind r k <;> rfl
theorem mget_put [DecidableEq α] (m : List (α × Value)) (k : α) (v : Value) (j : α) : mget (mput m k v) j = if j = k then some v else mget m j := by
  induction m with
  | nil => rw [mput, mget_cons]
  | cons p r ih =>
    obtain ⟨a, u⟩ := p
    unfold mput
    by_cases h : k = a
    · subst h
      simp only [beq_self_eq_true, if_true, mget_cons]
      split <;> rfl
    · simp only [beq_iff_eq, h, if_false, mget_cons, ih]
      by_cases hj : j = a
      · subst hj
        simp [Ne.symm h]
      · simp [hj]
/-- Block b is the map m. -/
def MRow (w : World) (b : Nat) (enc : α → Value) (m : List (α × Value)) : Prop := ∃ es clock, w.heap[b]? = some (.map es clock) ∧ es.toList.map (fun e => (e.key, e.val)) = m.map fun p => (enc p.1, p.2)
theorem MRow.lt {w : World} {b : Nat} {enc : α → Value} {m : List (α × Value)} (h : MRow w b enc m) : b < w.heap.size := by
  obtain ⟨_, _, h, _⟩ := h
  exact (Array.getElem?_eq_some_iff.1 h).1
theorem MRow.ext {w w' : World} {b : Nat} {enc : α → Value} {m : List (α × Value)} (h : MRow w b enc m) (he : Ext w w') : MRow w' b enc m := by
  have hl := h.lt
  obtain ⟨es, c, h1, h2⟩ := h
  exact ⟨es, c, (he.block b hl).trans h1, h2⟩
theorem Mod.map {S : Nat → Prop} {w w' : World} {b : Nat} {enc : α → Value} {m : List (α × Value)} (hm : Mod S w w') (h : MRow w b enc m) (hn : ¬ S b) : MRow w' b enc m := by
  have hl := h.lt
  obtain ⟨es, c, h1, h2⟩ := h
  exact ⟨es, c, (hm.block b hl hn).trans h1, h2⟩
theorem Upd.map {x : Nat} {w w' : World} {b : Nat} {enc : α → Value} {m : List (α × Value)} (u : Upd x w w') (h : MRow w b enc m) (hn : b ≠ x) : MRow w' b enc m := by
  obtain ⟨es, c, h1, h2⟩ := h
  exact ⟨es, c, (u.block b hn).trans h1, h2⟩

theorem findNow_eq [DecidableEq α] {D : TypeDesc} {enc : α → Value} (hD : ∀ a b, Instr.sameNow D (enc a) (enc b) = some (a == b)) (k : α) : ∀ (es : List MapEntry) (m : List (α × Value)) (i : Nat), es.map (fun e => (e.key, e.val)) = m.map (fun p => (enc p.1, p.2)) →
    Instr.findNow D (enc k) es i = some ((mfind m k).map fun p => (i + p.1, p.2))
  | [], [], i, _ => rfl
  | [], p :: m, i, h => by simp at h
  | e :: es, [], i, h => by simp at h
  | e :: es, (a, u) :: m, i, h => by
    simp only [List.map_cons, List.cons.injEq, Prod.mk.injEq] at h
    have ih := findNow_eq hD k es m (i + 1) h.2
    simp only [Instr.findNow, h.1.1, hD, mfind]
    cases hk : (k == a) with
    | true => simp [h.1.2]
    | false =>
      simp only [ih, Bool.false_eq_true, if_false]
      cases mfind m k with
      | none => rfl
      | some q => simp; omega
theorem modify_eq [DecidableEq α] {enc : α → Value} (k : α) (v : Value) : ∀ (es : List MapEntry) (m : List (α × Value)) (j : Nat) (u : Value), es.map (fun e => (e.key, e.val)) = m.map (fun p => (enc p.1, p.2)) → mfind m k = some (j, u) →
    (es.modify j fun e => { e with key := enc k, val := v }).map (fun e => (e.key, e.val)) = (mput m k v).map fun p => (enc p.1, p.2)
  | [], [], _, _, _, hf => by cases hf
  | [], p :: m, _, _, h, _ => by simp at h
  | e :: es, [], _, _, h, _ => by simp at h
  | e :: es, (a, q) :: m, j, u, h, hf => by
    simp only [List.map_cons, List.cons.injEq, Prod.mk.injEq] at h
    simp only [mfind] at hf
    unfold mput
    by_cases hk : (k == a) = true
    · rw [if_pos hk] at hf ⊢
      simp only [Option.some.injEq, Prod.mk.injEq] at hf
      obtain ⟨rfl, rfl⟩ := hf
      simp [h.2]
    · rw [if_neg hk] at hf ⊢
      cases hm : mfind m k with
      | none => rw [hm] at hf; cases hf
      | some r =>
        rw [hm] at hf
        simp only [Option.map_some, Option.some.injEq, Prod.mk.injEq] at hf
        obtain ⟨rfl, rfl⟩ := hf
        have ih := modify_eq k v es m r.1 r.2 h.2 hm
        simp only [List.modify_succ_cons, List.map_cons, ih, h.1.1, h.1.2]
theorem mput_none [DecidableEq α] {m : List (α × Value)} {k : α} (v : Value) (h : mfind m k = none) : mput m k v = m ++ [(k, v)] := by
  induction m with
  | nil => rfl
  | cons p r ih =>
    obtain ⟨a, u⟩ := p
    simp only [mfind] at h
    unfold mput
    by_cases hk : (k == a) = true
    · rw [if_pos hk] at h; cases h
    · rw [if_neg hk] at h ⊢
      rw [ih (by cases hm : mfind r k with | none => rfl | some q => rw [hm] at h; cases h)]
      rfl
end

section
variable {P : Program} {env : List (Nat × Value)} {w : World} {d : Option Tmp} {ty : TypeId} {pos : String} {af : Array Edge} {g : Option (Nat × Bool)} {α : Type} {enc : α → Value} {m : List (α × Value)} {kt e t : TypeId} {x y : Operand} {b : Nat} {k : α}
theorem run_findKey [DecidableEq α] (hk : KeyOK P kt enc) {es : List MapEntry} (h : es.map (fun e => (e.key, e.val)) = m.map fun p => (enc p.1, p.2)) (w : World) : (Instr.findKey kt (enc k) es).run P w = .ok (mfind m k) w := by
  obtain ⟨D, hu, hD, _⟩ := hk.now
  have := findNow_eq hD k es m 0 h
  simp only [Instr.findKey, Sem.run_bind, run_underlying hu, Result.andThen_ok, this]
  cases mfind m k <;> simp
theorem run_lookup [DecidableEq α] {z : Value} {size bytes : Nat} (ht : P.underlying t = some (.map kt e)) (hk : KeyOK P kt enc) (hz : Inf P e z size bytes) (hm : MRow w b enc m) (ok : Bool) :
    (Instr.lookup t (.map (some b)) (enc k) ok).run P w = .ok (if ok then .tuple #[(mget m k).getD z, .bool (mget m k).isSome] else (mget m k).getD z) w := by
  obtain ⟨es, c, h1, h2⟩ := hm
  obtain ⟨inf, i1, i2, _, _⟩ := hz.ex
  obtain ⟨_, _, _, hck⟩ := hk.now
  have hg : (getObj b).run P w = .ok (.map es c) w := by simp [getObj, Sem.run, h1]
  have hck2 := hck es.isEmpty 9999 k w
  have hf := run_findKey (k := k) hk h2 w
  simp only [Instr.lookup, Sem.run_bind, run_underlying ht, Result.andThen_ok, hg, Sem.run_pure, hck2, hf]
  unfold mget
  cases mfind m k with
  | none =>
    have hzv : (zeroValue e).run P w = .ok z w := by simp [zeroValue, typeInfo, i1, i2]
    simp only [Sem.run_bind, hzv, Result.andThen_ok, Sem.run_pure]
    cases ok <;> rfl
  | some q => cases ok <;> simp
theorem Exa.lookup [DecidableEq α] {wc : World} {z : Value} {size bytes : Nat} (ht : P.underlying t = some (.map kt e)) (hk : KeyOK P kt enc) (hz : Inf P e z size bytes) (hx : ev env x = some (.map (some b))) (hy : ev env y = some (enc k)) (hm : MRow wc b enc m) :
    Exa P env wc ⟨d, .lookup t x y false, ty, pos, af, g⟩ ((mget m k).getD z) := fun a N ha w hw => by
  have hr := run_lookup (k := k) ht hk hz (hm.ext hw) false
  simp only [execOp, ha.ev hx, ha.ev hy, Sem.run_bind, hr, Result.andThen_ok, Sem.run_pure]
  exact ⟨rfl, Ext.refl _⟩
theorem Exa.lookupOk [DecidableEq α] {wc : World} {z : Value} {size bytes : Nat} (ht : P.underlying t = some (.map kt e)) (hk : KeyOK P kt enc) (hz : Inf P e z size bytes) (hx : ev env x = some (.map (some b))) (hy : ev env y = some (enc k)) (hm : MRow wc b enc m) :
    Exa P env wc ⟨d, .lookup t x y true, ty, pos, af, g⟩ (.tuple #[(mget m k).getD z, .bool (mget m k).isSome]) := fun a N ha w hw => by
  have hr := run_lookup (k := k) ht hk hz (hm.ext hw) true
  simp only [execOp, ha.ev hx, ha.ev hy, Sem.run_bind, hr, Result.andThen_ok, Sem.run_pure]
  exact ⟨rfl, Ext.refl _⟩
theorem run_mapUpdate [DecidableEq α] {v : Value} (ht : P.underlying t = some (.map kt e)) (hk : KeyOK P kt enc) (hm : MRow w b enc m) :
    ∃ o, (Instr.mapUpdate t (.map (some b)) (enc k) v).run P w = .ok () (w.putObj b o) ∧ MRow (w.putObj b o) b enc (mput m k v) := by
  have hlt := hm.lt
  obtain ⟨es, c, h1, h2⟩ := hm
  obtain ⟨_, _, _, hck⟩ := hk.now
  have hg : (getObj b).run P w = .ok (.map es c) w := by simp [getObj, Sem.run, h1]
  have hck2 := hck false 9999 k w
  have hf := run_findKey (k := k) hk h2 w
  have hset : ∀ es' c', (setObj b (.map es' c')).run P w = .ok () (w.putObj b (.map es' c')) := fun es' c' => by simp [setObj, Sem.run, h1, World.putObj]
  cases hq : mfind m k with
  | none =>
    rw [hq] at hf
    refine ⟨.map (es.push { key := enc k, val := v, born := c }) (c + 1), ?_, _, _, World.putObj_heap_same hlt, ?_⟩
    · simp only [Instr.mapUpdate, Sem.run_bind, run_underlying ht, Result.andThen_ok, hg, hck2, hf, hset]
    · rw [mput_none v hq, Array.toList_push, List.map_append, List.map_append, h2]
      rfl
  | some p =>
    obtain ⟨j, u⟩ := p
    rw [hq] at hf
    have hstay : (Instr.keyThatStays (((es[j]?).map (·.key)).getD (enc k)) (enc k)).run P w = .ok (enc k) w := by
      have hold : ((es[j]?).map (·.key)).getD (enc k) = enc k := by
        have : ∀ (l : List MapEntry) (m : List (α × Value)) (j : Nat) (u : Value), l.map (fun e => (e.key, e.val)) = m.map (fun p => (enc p.1, p.2)) → mfind m k = some (j, u) → (l[j]?).map (·.key) = some (enc k) := by
          intro l
          induction l with
          | nil => intro m j u h hf; cases m with | nil => cases hf | cons p r => simp at h
          | cons e0 l ih =>
            intro m j u h hf
            cases m with
            | nil => cases hf
            | cons p r =>
              obtain ⟨a, q⟩ := p
              simp only [List.map_cons, List.cons.injEq, Prod.mk.injEq] at h
              simp only [mfind] at hf
              by_cases hka : (k == a) = true
              · rw [if_pos hka] at hf
                simp only [Option.some.injEq, Prod.mk.injEq] at hf
                obtain ⟨rfl, rfl⟩ := hf
                have : k = a := by simpa using hka
                simp [h.1.1, this]
              · rw [if_neg hka] at hf
                cases hm2 : mfind r k with
                | none => rw [hm2] at hf; cases hf
                | some q2 =>
                  rw [hm2] at hf
                  simp only [Option.map_some, Option.some.injEq, Prod.mk.injEq] at hf
                  obtain ⟨rfl, rfl⟩ := hf
                  simpa using ih r q2.1 q2.2 h.2 hm2
        have h3 := this es.toList m j u h2 hq
        rw [Array.getElem?_toList] at h3
        rw [h3]
        rfl
      rw [hold]
      simp [Instr.keyThatStays, hk.bits k]
    refine ⟨.map (es.modify j fun e => { e with key := enc k, val := v }) c, ?_, _, _, World.putObj_heap_same hlt, ?_⟩
    · simp only [Instr.mapUpdate, Sem.run_bind, run_underlying ht, Result.andThen_ok, hg, hck2, hf, hstay, hset]
    · rw [Array.toList_modify]
      exact modify_eq k v es.toList m j u h2 hq
theorem putObj_upd (w : World) (b : Nat) (o : Obj) : Upd b w (w.putObj b o) := ⟨rfl, rfl, rfl, by simp, fun k hk => World.putObj_heap_other hk⟩
theorem Stp.mapUpdate [DecidableEq α] {z : Operand} {v : Value} {K : Value → World → Prop} (ht : P.underlying t = some (.map kt e)) (hk : KeyOK P kt enc) (hx : ev env x = some (.map (some b))) (hy : ev env y = some (enc k)) (hz : ev env z = some v) (hm : MRow w b enc m)
    (h : ∀ w', Upd b w w' → MRow w' b enc (mput m k v) → K undef w') : Stp P env w ⟨d, .mapUpdate t x y z, ty, pos, af, g⟩ K := fun a N ha => by
  obtain ⟨o, hr, hm'⟩ := run_mapUpdate (k := k) (v := v) ht hk hm
  simp only [execOp, ha.ev hx, ha.ev hy, ha.ev hz, Sem.run_bind, hr, Result.andThen_ok, Sem.run_pure]
  exact h _ (putObj_upd w b o) hm'
theorem Stp.insert [DecidableEq α] {z : Operand} {v : Value} {K : Value → World → Prop} (ht : P.underlying t = some (.map kt e)) (hk : KeyOK P kt enc) (hx : ev env x = some (.map (some b))) (hy : ev env y = some (enc k)) (hz : ev env z = some v) (hm : MRow w b enc m)
    (h : ∀ w', Upd b w w' → MRow w' b enc (mput m k v) → K undef w') : Stp P env w ⟨d, .insert t x y z, ty, pos, af, g⟩ K := fun a N ha => by
  obtain ⟨o, hr, hm'⟩ := run_mapUpdate (k := k) (v := v) ht hk hm
  simp only [execOp, ha.ev hx, ha.ev hy, ha.ev hz, Sem.run_bind, hr, Result.andThen_ok, Sem.run_pure]
  exact h _ (putObj_upd w b o) hm'
theorem Stp.makeMap {K : Value → World → Prop} (enc : α → Value) (h : ∀ w', Ext w w' → w'.heap.size = w.heap.size + 1 → MRow w' w.heap.size enc [] → K (.map (some w.heap.size)) w') : Stp P env w ⟨d, .makeMap t none, ty, pos, af, g⟩ K := fun a N ha => by
  have hk := h (w.alloc (.map #[] 0)) (Ext.alloc w _) (by simp) ⟨#[], 0, heap_alloc_new w _, rfl⟩
  have hr : (Instr.makeMap t none).run P w = .ok (.map (some w.heap.size)) (w.alloc (.map #[] 0)) := rfl
  simp only [execOp, Option.map_none, Sem.run_bind, hr, Result.andThen_ok, Sem.run_pure]
  exact hk
end
end Go.XK
