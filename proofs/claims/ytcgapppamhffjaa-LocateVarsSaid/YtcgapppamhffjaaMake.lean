/- Slices that are made whole; a set of truths that is filled one by one. -/
import Derived.Test.YtcgapppamhffjaaQueue
import Derived.Laws.OwnMore
namespace Go.XK
open Go.RowKit
section
variable {P : Program} {env : List (Nat × Value)} {d : Option Tmp} {ty : TypeId} {pos : String} {af : Array Edge} {g : Option (Nat × Bool)}
theorem Stp.makeFull {w : World} {t e : TypeId} {x y : Operand} {kl kc : IntKind} {n : Nat} {z : Value} {size bytes : Nat} {K : Value → World → Prop} (ht : P.underlying t = some (.slice e)) (hi : Inf P e z size bytes) (hx : ev env x = some (.int kl (n : Int))) (hy : ev env y = some (.int kc (n : Int)))
    (hb : bytes * n ≤ 281474976710656) (h63 : n ≤ maxLen)
    (h : ∀ w' cells, Ext w w' → w'.ownsRow w.heap.size e size (.slice (some ⟨w.heap.size, 0, none⟩) n n) n cells → K (.slice (some ⟨w.heap.size, 0, none⟩) n n) w') : Stp P env w ⟨d, .makeSlice t x y, ty, pos, af, g⟩ K := fun a N ha => by
  obtain ⟨inf, h2, h3, h4, h5⟩ := hi.ex
  obtain ⟨w', hr, ho, hg⟩ := run_make_full (P := P) w w.heap.size t e inf z size ht h2 h3 h4 kl kc n (by rw [h5]; exact hb) h63 (Nat.le_refl _)
  have he : Ext w w' := ⟨hg.os, hg.tape, hg.output, hg.size, fun k hk => hg.block k hk (by simp)⟩
  simp only [execOp, ha.ev hx, ha.ev hy, Sem.run_bind, hr, Result.andThen_ok, Sem.run_pure]
  exact h w' _ he ho
end
/-- A row of n truths, of which the first k are f. -/
def Truths (w : World) (base : Nat) (e : TypeId) (v : Value) (n : Nat) (f : Int → Bool) (k : Nat) : Prop := ∃ cells, w.ownsRow base e 1 v n cells ∧ ∀ j : Nat, j < k → cells[j]? = some (.bool (f (j : Int)))
theorem Truths.ext {w w' : World} {base : Nat} {e : TypeId} {v : Value} {n : Nat} {f : Int → Bool} {k : Nat} (h : Truths w base e v n f k) (he : Ext w w') : Truths w' base e v n f k := by
  obtain ⟨c, h1, h2⟩ := h
  exact ⟨c, Ext.own h1 he, h2⟩
theorem Truths.get {w : World} {base : Nat} {e : TypeId} {v : Value} {n : Nat} {f : Int → Bool} {k : Nat} (h : Truths w base e v n f k) {z : Int} (h0 : 0 ≤ z) (hj : z < k) (hk : k ≤ n) : w.cell? ⟨blk v, ofs v + z.toNat * 1, none⟩ = some (.bool (f z)) := by
  obtain ⟨c, h1, h2⟩ := h
  rw [Nat.mul_one]
  have h3 := h2 z.toNat (by omega)
  rw [Int.toNat_of_nonneg h0] at h3
  exact Reads.atB (Reads.of_own h1) (by omega) _ _ h3
theorem Truths.set {w : World} {base : Nat} {e : TypeId} {v : Value} {n : Nat} {f : Int → Bool} {k : Nat} {cells : List Value} (hc : ∀ j : Nat, j < k → cells[j]? = some (.bool (f (j : Int)))) (hl : k < cells.length) (h : w.ownsRow base e 1 v n (cells.set k (.bool (f (k : Int))))) : Truths w base e v n f (k + 1) := by
  refine ⟨_, h, fun j hj => ?_⟩
  rcases Nat.lt_or_eq_of_le (Nat.le_of_lt_succ hj) with hj | rfl
  · rw [List.getElem?_set_ne (by omega)]
    exact hc j hj
  · rw [List.getElem?_set_self hl]
end Go.XK
