/- Stores into a part of a row, of a slice. -/
import Derived.Test.YtcgapppamhffjaaQueue
import Derived.Laws.CopyRow
namespace Go.XK
open Go.RowKit
/-- l with vs laid over it from o on. -/
def putL (l : List Value) (o : Nat) (vs : List Value) : List Value := l.take o ++ vs ++ l.drop (o + vs.length)
theorem putL_get {l : List Value} {o : Nat} {vs : List Value} (h : o + vs.length ≤ l.length) (j : Nat) : (putL l o vs)[j]? = if o ≤ j ∧ j < o + vs.length then vs[j - o]? else l[j]? := by
  unfold putL
  by_cases h1 : j < o
  · rw [List.append_assoc, List.getElem?_append_left (by rw [List.length_take]; omega), List.getElem?_take, if_pos h1, if_neg (by omega)]
  · by_cases h2 : j < o + vs.length
    · rw [List.getElem?_append_left (by rw [List.length_append, List.length_take]; omega), List.getElem?_append_right (by rw [List.length_take]; omega), List.length_take, if_pos (by omega)]
      congr 1
      omega
    · rw [List.getElem?_append_right (by rw [List.length_append, List.length_take]; omega), List.getElem?_drop, List.length_append, List.length_take, if_neg (by omega)]
      congr 1
      omega
theorem putL_len {l : List Value} {o : Nat} {vs : List Value} (h : o + vs.length ≤ l.length) : (putL l o vs).length = l.length := by
  unfold putL
  simp
  omega
section
variable {P : Program} {env : List (Nat × Value)} {d : Option Tmp} {ty : TypeId} {pos : String} {af : Array Edge} {g : Option (Nat × Bool)}
theorem Stp.storeF {w : World} {T T' : TypeId} {x y : Operand} {b o : Nat} {v : Value} {old : List Value} {K : Value → World → Prop} (hs : (P.info? T).map (·.size) = some v.cells.size) (hx : ev env x = some (.pointer (some ⟨b, o, none⟩))) (hy : ev env y = some v)
    (hr : Row w b T' old) (hl : o + v.cells.toList.length ≤ old.length) (h1 : v.cells.toList.all (·.oneCell') = true) (h : ∀ w', Upd b w w' → Row w' b T' (putL old o v.cells.toList) → K undef w') : Stp P env w ⟨d, .store T x y, ty, pos, af, g⟩ K := fun a N ha => by
  have hst := run_storeCells_at P b o T' v.cells.toList 0 old.toArray w hr (by simpa using hl) (fun u hu => List.all_eq_true.1 h1 u hu)
  cases hi : P.info? T with
  | none => rw [hi] at hs; cases hs
  | some inf =>
    rw [hi] at hs
    simp only [Option.map_some, Option.some.injEq] at hs
    have hrun : (storeVar T ⟨b, o, none⟩ v).run P w = .ok () (w.setRow b (putL old o v.cells.toList).toArray) := by
      simp only [storeVar, Sem.run_bind, sizeOf, typeInfo]
      simp only [Nat.add_zero] at hst
      simp [hi, hs, hst, putL]
    simp only [execOp, ha.ev hx, ha.ev hy, Instr.storeAt, Instr.sureAddr, Sem.run_bind, Sem.run_pure, Result.andThen_ok, hrun]
    exact h _ (setRow_upd w b _) (by have := setRow_heap w b old.toArray (putL old o v.cells.toList).toArray T' (0, 0) hr; unfold Row; simpa using this)
theorem Stp.storeQ {w : World} {T : TypeId} {x y : Operand} {base : Nat} {e : TypeId} {size n c : Nat} {v u : Value} {xs : List Value} {K : Value → World → Prop} (hs : (P.info? T).map (·.size) = some u.cells.size) (h1 : u.cells.toList.all (·.oneCell') = true)
    (hown : OwnQ w base e size v n xs) (hc : c + u.cells.toList.length ≤ xs.length) (hx : ev env x = some (.pointer (some ⟨blk v, ofs v + c, none⟩))) (hy : ev env y = some u) (hn0 : 0 < xs.length)
    (h : ∀ w', Upd (blk v) w w' → OwnQ w' base e size v n (putL xs c u.cells.toList) → K undef w') : Stp P env w ⟨d, .store T x y, ty, pos, af, g⟩ K := fun a N ha => by
  obtain ⟨hl, h2⟩ := hown
  rcases h2 with ⟨rfl, hn⟩ | ⟨gb, o, cap, cur, rfl, hg, hh, hnc, hcm, hcs, htake⟩
  · rw [hn, Nat.zero_mul] at hl
    omega
  · simp only [blk, ofs] at hx h
    have hle : n * size ≤ cap * size := Nat.mul_le_mul_right _ hnc
    have hfit : o + c + 0 + u.cells.toList.length ≤ cur.size := by omega
    have hst := run_storeCells_at P gb (o + c) e u.cells.toList 0 cur w hh hfit (fun q hq => List.all_eq_true.1 h1 q hq)
    simp only [Nat.add_zero] at hst hfit
    cases hi : P.info? T with
    | none => rw [hi] at hs; cases hs
    | some inf =>
      rw [hi] at hs
      simp only [Option.map_some, Option.some.injEq] at hs
      have hrun : (storeVar T ⟨gb, o + c, none⟩ u).run P w = .ok () (w.setRow gb (putL cur.toList (o + c) u.cells.toList).toArray) := by
        simp only [storeVar, Sem.run_bind, sizeOf, typeInfo]
        simp [hi, hs, hst, putL]
      simp only [execOp, ha.ev hx, ha.ev hy, Instr.storeAt, Instr.sureAddr, Sem.run_bind, Sem.run_pure, Result.andThen_ok, hrun]
      have hfl : o + c + u.cells.toList.length ≤ cur.toList.length := by simpa using hfit
      refine h _ (setRow_upd w gb _) ⟨by rw [putL_len hc, hl], .inr ⟨gb, o, cap, _, rfl, hg, setRow_heap w gb cur _ e (0, 0) hh, hnc, hcm, ?_, ?_⟩⟩
      · have := putL_len hfl
        simp only [List.size_toArray, this]
        simpa using hcs
      · apply List.ext_getElem?
        intro j
        rw [putL_get hc, ← htake, List.getElem?_take, List.getElem?_take, List.getElem?_drop, List.getElem?_drop, List.toList_toArray, putL_get hfl]
        by_cases hj : j < n * size
        · rw [if_pos hj, if_pos hj]
          by_cases hin : c ≤ j ∧ j < c + u.cells.toList.length
          · rw [if_pos hin, if_pos (by omega)]
            congr 1
            omega
          · rw [if_neg hin, if_neg (by omega)]
        · rw [if_neg hj, if_neg hj, if_neg (by omega)]
end
section
variable {P : Program} {ops : Array Oper} {kd : Nat → Nat} {Kf : Act → World → Prop} {dl : List Deferred} {N f : Nat} {listed : Array Bool} {env : List (Nat × Value)} {wc : World}
theorem EA.three (i j m : Nat) (hr : Region.ready .any ops listed = [i, j, m]) (h1 : Closed .any ops (listed.setIfInBounds i true) → EK dl N (xOp P ops kd i (AnyX P ops .any kd Kf f (listed.setIfInBounds i true))) env wc)
    (h2 : Closed .any ops (listed.setIfInBounds j true) → EK dl N (xOp P ops kd j (AnyX P ops .any kd Kf f (listed.setIfInBounds j true))) env wc) (h3 : Closed .any ops (listed.setIfInBounds m true) → EK dl N (xOp P ops kd m (AnyX P ops .any kd Kf f (listed.setIfInBounds m true))) env wc) :
    EA P ops kd Kf dl N (f + 1) listed env wc := by
  intro hcl a ha
  refine AnyX_all hr (by simp) fun k hk => ?_
  have hk2 : k = i ∨ k = j ∨ k = m := by simpa using hk
  rcases hk2 with rfl | rfl | rfl
  · exact h1 (hcl.set (by rw [hr]; simp)) a ha
  · exact h2 (hcl.set (by rw [hr]; simp)) a ha
  · exact h3 (hcl.set (by rw [hr]; simp)) a ha
end
end Go.XK
