/- Room: how a list of spans lies in memory. -/
import Derived.Test.YtnnmeipmkfbpdaaTypes
import Derived.Test.YtnnmeipmkfbpdaaSpec
namespace Go.Proofs.Ytnnmeipmkfbpdaa
open Go.RowKit Go.XK Go.RoomLaw

def spV (s : Sp) : Value := .agg #[.int .i64 s.1, .int .i64 s.2]
def spC (s : Sp) : List Value := [.int .i64 s.1, .int .i64 s.2]
def spCs : List Sp → List Value
  | [] => []
  | s :: r => .int .i64 s.1 :: .int .i64 s.2 :: spCs r
theorem spCs_length : ∀ l : List Sp, (spCs l).length = l.length * 2
  | [] => rfl
  | s :: r => by simp [spCs, spCs_length r]; omega
theorem spCs_append : ∀ l r : List Sp, spCs (l ++ r) = spCs l ++ spCs r
  | [], r => rfl
  | s :: l, r => by simp [spCs, spCs_append l r]
theorem spCs_get : ∀ (l : List Sp) (i : Nat), i < l.length → (spCs l)[i * 2]? = some (.int .i64 (gt l i).1) ∧ (spCs l)[i * 2 + 1]? = some (.int .i64 (gt l i).2)
  | [], i, h => by simp at h
  | s :: r, 0, _ => by simp [spCs, gt]
  | s :: r, i + 1, h => by
    have := spCs_get r i (by simpa using h)
    simp only [Nat.add_mul, Nat.one_mul]
    simpa [spCs, gt] using this
theorem spCs_one (l : List Sp) : ∀ q ∈ spCs l, q.oneCell' = true := by
  induction l with
  | nil => intro q hq; cases hq
  | cons s r ih =>
    intro q hq
    simp only [spCs, List.mem_cons] at hq
    rcases hq with rfl | rfl | hq
    · rfl
    · rfl
    · exact ih q hq
theorem spCs_drop : ∀ (l : List Sp) (k : Nat), spCs (l.drop k) = (spCs l).drop (k * 2)
  | l, 0 => by simp
  | [], k + 1 => by simp [spCs]
  | s :: r, k + 1 => by simp [spCs, spCs_drop r k, Nat.add_mul]

/-- v reads as the list l of spans. -/
def Spans (w : World) (v : Value) (l : List Sp) : Prop := Reads w 2 v l.length (spCs l)
theorem Spans.ext {w w' : World} {v : Value} {l : List Sp} (h : Spans w v l) (he : Ext w w') : Spans w' v l := Reads.ext h he
theorem Spans.at {w : World} {b o : Nat} {l : List Sp} (h : At w b o (spCs l)) {i : Nat} (hi : i < l.length) : At w b (o + i * 2) (spC (gt l i)) := by
  intro j v hj
  obtain ⟨h1, h2⟩ := spCs_get l i hi
  have hj2 : j = 0 ∨ j = 1 ∨ 2 ≤ j := by omega
  rcases hj2 with rfl | rfl | hj2
  · simp only [spC, List.getElem?_cons_zero, Option.some.injEq] at hj
    subst hj
    exact h _ _ h1
  · simp only [spC, List.getElem?_cons_succ, List.getElem?_cons_zero, Option.some.injEq] at hj
    subst hj
    rw [Nat.add_assoc]
    exact h _ _ h2
  · rw [List.getElem?_eq_none (by simpa [spC] using hj2)] at hj; cases hj
theorem spNeq (x y : Operand) (s t : Sp) (w : World) : ((do eqGuard .neq 24 x y (spV s) (spV t); binOp .neq 24 (spV s) (spV t)) : Sem Value).run Try.prog w = .ok (.bool (neS s t)) w := by
  simp [go_sem, spV, neS]
  by_cases h1 : s.1 = t.1 <;> by_cases h2 : s.2 = t.2 <;> simp [h1, h2]
theorem Spans.drop {w : World} {a : Option Addr} {c : Nat} {l : List Sp} (h : Spans w (.slice a l.length c) l) {i : Nat} (hi : i ≤ l.length) : Reads w 2 (.slice (if c = i then a else a.map (·.add (i * 2))) (l.length - i) (c - i)) (l.length - i) (spCs (l.drop i)) := by
  rw [spCs_drop]; exact Reads.drop h hi
theorem spC_one (s : Sp) : ∀ q ∈ spC s, q.oneCell' = true := by
  intro q hq
  simp only [spC, List.mem_cons, List.mem_nil_iff, or_false] at hq
  rcases hq with rfl | rfl <;> rfl
theorem spCs_snoc (l : List Sp) (s : Sp) : spCs (l ++ [s]) = spCs l ++ spC s := by rw [spCs_append]; rfl
def inC : List Int → List Value
  | [] => []
  | n :: r => .int .i64 n :: inC r
theorem inC_length : ∀ l : List Int, (inC l).length = l.length
  | [] => rfl
  | n :: r => by simp [inC, inC_length r]
theorem inC_append : ∀ l r : List Int, inC (l ++ r) = inC l ++ inC r
  | [], r => rfl
  | n :: l, r => by simp [inC, inC_append l r]
theorem inC_get : ∀ (l : List Int) (i : Nat), i < l.length → (inC l)[i]? = some (.int .i64 (gi l i))
  | [], i, h => by simp at h
  | n :: r, 0, _ => by simp [inC, gi]
  | n :: r, i + 1, h => by
    have := inC_get r i (by simpa using h)
    simpa [inC, gi] using this
theorem inC_one (l : List Int) : ∀ q ∈ inC l, q.oneCell' = true := by
  induction l with
  | nil => intro q hq; cases hq
  | cons n r ih =>
    intro q hq
    simp only [inC, List.mem_cons] at hq
    rcases hq with rfl | hq
    · rfl
    · exact ih q hq
theorem inC_take (l : List Int) (k : Nat) : inC (l.take k) = (inC l).take (k * 1) := by
  rw [Nat.mul_one]
  induction l generalizing k with
  | nil => simp [inC]
  | cons n r ih => cases k with
    | zero => simp [inC]
    | succ k => simp [inC, ih k]
theorem inC_drop (l : List Int) (k : Nat) : inC (l.drop k) = (inC l).drop (k * 1) := by
  rw [Nat.mul_one]
  induction l generalizing k with
  | nil => simp [inC]
  | cons n r ih => cases k with
    | zero => simp [inC]
    | succ k => simp [inC, ih k]
/-- v reads as the list l of numbers. -/
def Ints (w : World) (v : Value) (l : List Int) : Prop := Reads w 1 v l.length (inC l)
theorem Ints.of_own {w : World} {base : Nat} {e : TypeId} {v : Value} {l : List Int} (h : w.ownsRow base e 1 v l.length (inC l)) : Ints w v l := Reads.of_own h
theorem Ints.ext {w w' : World} {v : Value} {l : List Int} (h : Ints w v l) (he : Ext w w') : Ints w' v l := Reads.ext h he
theorem Ints.cell {w : World} {v : Value} {l : List Int} (h : Ints w v l) {i : Nat} (hi : i < l.length) : w.cell? ⟨blk v, ofs v + i * 1, none⟩ = some (.int .i64 (gi l i)) := by
  rw [Nat.mul_one]
  exact Reads.atB h (by omega) _ _ (inC_get l i hi)
theorem tdiv2 {k : Nat} (h : k ≤ 100000) : IntKind.i64.wrap ((k : Int).tdiv 2) = ((k / 2 : Nat) : Int) := by
  rw [Int.tdiv_eq_ediv_of_nonneg (by omega), IntWalk.i64_in _ (by omega)]
  omega
theorem tmod2 {k : Nat} : (k : Int).tmod 2 = ((k % 2 : Nat) : Int) := by
  rw [Int.tmod_eq_emod_of_nonneg (by omega)]
  omega
theorem ins_cells (l : List Int) (n : Int) (j : Nat) : inC (l.take j ++ [n] ++ l.drop j) = (inC l).take (j * 1) ++ [.int .i64 n] ++ (inC l).drop (j * 1) := by
  rw [inC_append, inC_append, inC_take, inC_drop]; rfl
theorem ins_length (l : List Int) (n : Int) {j : Nat} (hj : j ≤ l.length) : (l.take j ++ [n] ++ l.drop j).length = j + 1 + (l.length - j) := by
  simp only [List.length_append, List.length_take, List.length_drop, List.length_cons, List.length_nil]
  omega
theorem Spans.elem {w : World} {v : Value} {l : List Sp} (h : Spans w v l) {i : Nat} (hi : i < l.length) : At w (blk v) (ofs v + i * 2) (spC (gt l i)) :=
  Spans.at (Reads.atB h (by omega)) hi
theorem Spans.of_own {w : World} {base : Nat} {e : TypeId} {v : Value} {l : List Sp} (h : w.ownsRow base e 2 v l.length (spCs l)) : Spans w v l := Reads.of_own h
theorem spCs_set : ∀ (l : List Sp) (i : Nat) (n : Int), i < l.length → spCs (l.set i ((gt l i).1, n)) = (spCs l).set (i * 2 + 1) (.int .i64 n)
  | [], i, n, h => by simp at h
  | s :: r, 0, n, _ => by simp [spCs, gt]
  | s :: r, i + 1, n, h => by
    have := spCs_set r i n (by simpa using h)
    simp only [List.set_cons_succ, spCs, Nat.add_mul, Nat.one_mul]
    rw [show gt (s :: r) (i + 1) = gt r i from by simp [gt], this]
theorem Spans.len {w : World} {v : Value} {l : List Sp} (h : Spans w v l) : ∃ b c, v = .slice b l.length c ∧ l.length ≤ maxLen := by
  obtain ⟨b, c, h1, h2, h3⟩ := Reads.len h
  exact ⟨b, c, h1, Nat.le_trans h2 h3⟩
theorem Spans.has {w : World} {b0 : Option Addr} {c0 : Nat} {l : List Sp} (h : Spans w (.slice b0 l.length c0) l) {k : Nat} (hk : k < l.length) : ∃ b o, b0 = some ⟨b, o, none⟩ ∧ At w b o (spCs l) := by
  obtain ⟨b, o, c, h1, _, _, h2⟩ := Reads.has h (Nat.lt_of_le_of_lt (Nat.zero_le _) hk)
  injection h1 with e1
  exact ⟨b, o, e1, h2⟩
end Go.Proofs.Ytnnmeipmkfbpdaa
