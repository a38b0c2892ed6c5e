/- Bind: what a visit knows of the world, and what it does to the set. -/
import Derived.Test.YtgagjmapjdeknaaW3
namespace Go.Proofs.Ytgagjmapjdeknaa
open Go.RowKit Go.XK Go.BindLaw

def ptr (b : Nat) : Value := .pointer (some ⟨b, 0, none⟩)
/-- The captured cells of the visit: the set (block bm), the map of the declarations (block bi), the declarations, the visit itself. -/
structure VEnv (l : List Vd) (v : Value) (w00 : World) (bm bi b1 b2 b3 b4 : Nat) (midx : List (ByteArray × Value)) (w : World) : Prop where
  ext : Ext w00 w
  new : w00.heap.size ≤ bm
  vds : Vds w00 v l
  idx : ∀ s, mget midx s = (findV l s).map fun i => Value.int .i64 (i : Int)
  r1 : Row w b1 77 [.map (some bm)]
  r2 : Row w b2 81 [.map (some bi)]
  mi : MRow w bi Value.string midx
  r3 : Row w b3 43 [v]
  r4 : Row w b4 83 [.func (.func 37) #[] #[ptr b1, ptr b2, ptr b3, ptr b4]]
  n1 : b1 ≠ bm
  n2 : b2 ≠ bm
  n3 : b3 ≠ bm
  n4 : b4 ≠ bm
  ni : bi ≠ bm
theorem VEnv.mod {l : List Vd} {v : Value} {w00 : World} {bm bi b1 b2 b3 b4 : Nat} {midx : List (ByteArray × Value)} {w w' : World} (h : VEnv l v w00 bm bi b1 b2 b3 b4 midx w) (m : Mod (fun b => b = bm) w w') : VEnv l v w00 bm bi b1 b2 b3 b4 midx w' :=
  ⟨h.ext.modify m (fun k e => by rw [e]; exact h.new), h.new, h.vds, h.idx, m.row h.r1 h.n1, m.row h.r2 h.n2, m.map h.mi h.ni, m.row h.r3 h.n3, m.row h.r4 h.n4, h.n1, h.n2, h.n3, h.n4, h.ni⟩
def inM (m : List (ByteArray × Value)) (x : ByteArray) : Bool := (mget m x).isSome
def Tru (m : List (ByteArray × Value)) : Prop := ∀ x u, mget m x = some u → u = .bool true
/-- What the visit of s has done to the set. -/
structure Grow (l : List Vd) (s : ByteArray) (m m' : List (ByteArray × Value)) : Prop where
  tru : Tru m'
  mono : ∀ x, inM m x = true → inM m' x = true
  has : inM m' s = true
  new : ∀ x, inM m' x = true → inM m x = false → BindLaw.Reach l s x ∧ ∀ p ∈ par l x, inM m' p = true
theorem inM_put (m : List (ByteArray × Value)) (s x : ByteArray) : inM (mput m s (.bool true)) x = (decide (x = s) || inM m x) := by
  unfold inM
  rw [mget_put]
  by_cases h : x = s <;> simp [h]
theorem Tru.put {m : List (ByteArray × Value)} (h : Tru m) (s : ByteArray) : Tru (mput m s (.bool true)) := fun x u hx => by
  rw [mget_put] at hx
  split at hx
  · simpa using hx.symm
  · exact h x u hx
theorem Tru.get {m : List (ByteArray × Value)} (h : Tru m) (x : ByteArray) : (mget m x).getD (.bool false) = .bool (inM m x) := by
  unfold inM
  cases hx : mget m x with
  | none => rfl
  | some u => rw [h x u hx]; rfl
/-- .. of which the first k parents have been visited. -/
structure GrowP (l : List Vd) (s : ByteArray) (m m' : List (ByteArray × Value)) (k : Nat) : Prop where
  tru : Tru m'
  mono : ∀ x, inM m x = true → inM m' x = true
  has : inM m' s = true
  new : ∀ x, inM m' x = true → inM m x = false → BindLaw.Reach l s x ∧ (x ≠ s → ∀ p ∈ par l x, inM m' p = true)
  ps : ∀ p ∈ (par l s).take k, inM m' p = true
theorem GrowP.start {l : List Vd} {s : ByteArray} {m : List (ByteArray × Value)} (h : Tru m) : GrowP l s m (mput m s (.bool true)) 0 :=
  ⟨h.put s, fun x hx => by rw [inM_put, hx, Bool.or_true], by rw [inM_put]; simp, fun x h1 h2 => by
    rw [inM_put, h2, Bool.or_false, decide_eq_true_eq] at h1
    subst h1
    exact ⟨.refl, fun h => absurd rfl h⟩, fun p hp => by simp at hp⟩
theorem GrowP.step {l : List Vd} {s : ByteArray} {m m1 m2 : List (ByteArray × Value)} {k : Nat} (h : GrowP l s m m1 k) (hk : k < (par l s).length) (g : Grow l (par l s)[k] m1 m2) : GrowP l s m m2 (k + 1) :=
  ⟨g.tru, fun x hx => g.mono x (h.mono x hx), g.mono _ h.has, fun x h1 h2 => by
    cases h3 : inM m1 x with
    | true =>
      obtain ⟨r1, r2⟩ := h.new x h3 h2
      exact ⟨r1, fun hne p hp => g.mono p (r2 hne p hp)⟩
    | false =>
      obtain ⟨r1, r2⟩ := g.new x h1 h3
      exact ⟨reach_par (List.getElem_mem hk) r1, fun _ => r2⟩, fun p hp => by
    rw [List.take_succ_eq_append_getElem hk] at hp
    rcases List.mem_append.1 hp with hp | hp
    · exact g.mono p (h.ps p hp)
    · rw [List.mem_singleton] at hp
      subst hp
      exact g.has⟩
theorem GrowP.done {l : List Vd} {s : ByteArray} {m m' : List (ByteArray × Value)} {k : Nat} (h : GrowP l s m m' k) (hk : (par l s).length ≤ k) : Grow l s m m' :=
  ⟨h.tru, h.mono, h.has, fun x h1 h2 => by
    obtain ⟨r1, r2⟩ := h.new x h1 h2
    refine ⟨r1, fun p hp => ?_⟩
    by_cases hx : x = s
    · subst hx
      exact h.ps p (by rw [List.take_of_length_le hk]; exact hp)
    · exact r2 hx p hp⟩
/-- A set that grew out of nothing is what is reached. -/
theorem Grow.all {l : List Vd} {s : ByteArray} {m : List (ByteArray × Value)} (h : Grow l s [] m) (x : ByteArray) : inM m x = servesB l s x := by
  have h1 : inM m x = true ↔ BindLaw.Reach l s x := by
    constructor
    · intro hx
      exact (h.new x hx rfl).1
    · intro hr
      induction hr with
      | refl => exact h.has
      | step _ hb ih => exact (h.new _ ih rfl).2 _ hb
  rw [Bool.eq_iff_iff, h1, serves_iff]
end Go.Proofs.Ytgagjmapjdeknaa
