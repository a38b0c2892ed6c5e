/- Locate: what an image tells of its code, as plain data; what both sides compute. No program in sight. -/
import GoSem.Core.View
namespace Go.LocateLaw

structure Sp where
  at_ : Int
  size : Int
structure Mk where
  name : ByteArray
  kind : Int
  at_ : Int
  size : Int
structure Ln where
  sec : Int
  at_ : Int
  file : ByteArray
  line : Int
structure Il where
  sec : Int
  from_ : Int
  to_ : Int
  name : ByteArray
  file : ByteArray
  line : Int
  deriving DecidableEq
structure Vr where
  sec : Int
  from_ : Int
  to_ : Int
  name : ByteArray
  where_ : Int
  n : Int
  deriving DecidableEq
def mkZ : Mk := ⟨ByteArray.empty, 0, 0, 0⟩
def lnZ : Ln := ⟨0, 0, ByteArray.empty, 0⟩
structure Inf where
  marks : List Mk
  lines : List Ln
  ends : List Sp
  inlines : List Il
  vars : List Vr
structure Sot where
  func : ByteArray
  off : Int
  file : ByteArray
  line : Int
  inls : List Il
def spC (x : Sp) : List Value := [.int .i64 x.at_, .int .i64 x.size]
def mkC (x : Mk) : List Value := [.string x.name, .int .i64 x.kind, .int .i64 x.at_, .int .i64 x.size]
def lnC (x : Ln) : List Value := [.int .i64 x.sec, .int .i64 x.at_, .string x.file, .int .i64 x.line]
def ilC (x : Il) : List Value := [.int .i64 x.sec, .int .i64 x.from_, .int .i64 x.to_, .string x.name, .string x.file, .int .i64 x.line]
def vrC (x : Vr) : List Value := [.int .i64 x.sec, .int .i64 x.from_, .int .i64 x.to_, .string x.name, .int .i64 x.where_, .int .i64 x.n]

/-- The number of the first that p holds of, or -1. -/
def idxI {α : Type} (p : α → Bool) (l : List α) : Int := match l.findIdx? p with
  | some i => i
  | none => -1
theorem idxI_hit {α : Type} {p : α → Bool} {l : List α} {k : Nat} (h : k < l.length) (hk : p l[k] = true) (hb : ∀ j (h : j < l.length), j < k → p l[j] = false) : idxI p l = k := by
  have : l.findIdx? p = some k := by
    rw [List.findIdx?_eq_some_iff_getElem]
    exact ⟨h, hk, fun j hj => by rw [hb j (by omega) hj]; exact Bool.false_ne_true⟩
  rw [idxI, this]
theorem idxI_miss {α : Type} {p : α → Bool} {l : List α} (hb : ∀ j (h : j < l.length), p l[j] = false) : idxI p l = -1 := by
  have : l.findIdx? p = none := by
    rw [List.findIdx?_eq_none_iff]
    intro x hx
    obtain ⟨j, hj, rfl⟩ := List.getElem_of_mem hx
    exact hb j hj
  rw [idxI, this]
theorem idxI_neg {α : Type} {p : α → Bool} {l : List α} (h : idxI p l < 0) : l.find? p = none := by
  unfold idxI at h
  cases hf : l.findIdx? p with
  | none => simpa [List.findIdx?_eq_none_iff] using hf
  | some i => rw [hf] at h; simp only at h; omega
theorem find_at {α : Type} {p : α → Bool} {l : List α} {k : Nat} (h : k < l.length) (hk : p l[k] = true) (hb : ∀ j (h : j < l.length), j < k → p l[j] = false) : l.find? p = some l[k] := by
  rw [List.find?_eq_some_iff_getElem]
  exact ⟨hk, k, h, rfl, fun j hj => by rw [hb j (by omega) hj]; rfl⟩
theorem find_no {α : Type} {p : α → Bool} {l : List α} (hb : ∀ j (h : j < l.length), p l[j] = false) : l.find? p = none := by
  rw [List.find?_eq_none]
  intro x hx
  obtain ⟨j, hj, rfl⟩ := List.getElem_of_mem hx
  rw [hb j hj]
  exact Bool.false_ne_true
theorem idxI_ge {α : Type} {p : α → Bool} {l : List α} (h : ¬ idxI p l < 0) : ∃ i, ∃ hi : i < l.length, idxI p l = (i : Int) ∧ l.find? p = some l[i] := by
  unfold idxI at h
  cases hf : l.findIdx? p with
  | none => rw [hf] at h; exact absurd (by decide) h
  | some i =>
    obtain ⟨h1, h2, h3⟩ := List.findIdx?_eq_some_iff_getElem.1 hf
    exact ⟨i, h1, by rw [idxI, hf], find_at h1 h2 fun j _ hj => by simpa using h3 j hj⟩
theorem idxI_any {α : Type} (p : α → Bool) (l : List α) : decide (idxI p l ≥ 0) = l.any p := by
  by_cases h : idxI p l < 0
  · have := idxI_neg h
    rw [decide_eq_false (by omega)]
    symm
    rw [List.any_eq_false]
    intro x hx
    exact List.find?_eq_none.1 this x hx
  · obtain ⟨i, hi, h1, h2⟩ := idxI_ge h
    rw [decide_eq_true (by omega)]
    symm
    rw [List.any_eq_true]
    exact ⟨l[i], List.getElem_mem hi, List.find?_some h2⟩

theorem filt_eq {α : Type} {l : List α} {p : α → Bool} {k : Nat} (h : k < l.length) (hp : p l[k] = true) : l.filter p = (l.take k).filter p ++ l[k] :: (l.drop (k + 1)).filter p := by
  conv => lhs; rw [← List.take_append_drop k l]
  rw [List.filter_append, List.drop_eq_getElem_cons h, List.filter_cons_of_pos hp]
theorem filt_lt {α : Type} {l : List α} {p : α → Bool} {k : Nat} (h : k < l.length) (hp : p l[k] = true) : ((l.take k).filter p).length < (l.filter p).length := by
  rw [filt_eq h hp, List.length_append, List.length_cons]
  omega
theorem filt_get {α : Type} {l : List α} {p : α → Bool} {k : Nat} (h : k < l.length) (hp : p l[k] = true) (hi : ((l.take k).filter p).length < (l.filter p).length) : (l.filter p)[((l.take k).filter p).length] = l[k] := by
  have : (l.filter p)[((l.take k).filter p).length]? = some l[k] := by
    rw [filt_eq h hp]
    simp
  rw [List.getElem?_eq_getElem hi] at this
  exact Option.some.inj this
theorem filt_yes {α : Type} {l : List α} {p : α → Bool} {k : Nat} (h : k < l.length) (hp : p l[k] = true) : (l.take (k + 1)).filter p = (l.take k).filter p ++ [l[k]] := by
  rw [← List.take_append_getElem h, List.filter_append]
  simp [hp]
theorem filt_no {α : Type} {l : List α} {p : α → Bool} {k : Nat} (h : k < l.length) (hp : p l[k] = false) : (l.take (k + 1)).filter p = (l.take k).filter p := by
  rw [← List.take_append_getElem h, List.filter_append]
  simp [hp]

def lastD {α : Type} (z : α) (l : List α) : α := l.getLast?.getD z
def lastB {α : Type} (l : List α) : Bool := l.getLast?.isSome
theorem lastD_next {α : Type} {z : α} {l : List α} {k : Nat} (h : k < l.length) : lastD z (l.take (k + 1)) = l[k] := by
  rw [List.take_succ_eq_append_getElem h, lastD, List.getLast?_concat]
  rfl
theorem lastB_next {α : Type} {l : List α} {k : Nat} (h : k < l.length) : lastB (l.take (k + 1)) = true := by
  rw [List.take_succ_eq_append_getElem h, lastB, List.getLast?_concat]
  rfl

/-- m is l with the outer i pairs exchanged. -/
def RevI {α : Type} (l m : List α) (i : Nat) : Prop := m.length = l.length ∧ ∀ k, k < l.length → m[k]? = if k < i ∨ l.length - 1 - k < i then l[l.length - 1 - k]? else l[k]?
theorem RevI.start {α : Type} (l : List α) : RevI l l 0 := ⟨rfl, fun k _ => by rw [if_neg (by omega)]⟩
theorem RevI.step {α : Type} {l m : List α} {i j : Nat} {x y : α} (h : RevI l m i) (hj : j = l.length - 1 - i) (hij : i < j) (hx : m[j]? = some x) (hy : m[i]? = some y) : RevI l ((m.set i x).set j y) (i + 1) := by
  obtain ⟨h1, h2⟩ := h
  refine ⟨by simp [h1], fun k hk => ?_⟩
  have ei := h2 i (by omega)
  have ej := h2 j (by omega)
  rw [if_neg (by omega)] at ei ej
  rw [List.getElem?_set, List.getElem?_set]
  by_cases e1 : j = k
  · subst e1
    rw [if_pos rfl, if_pos (by simp; omega), if_pos (by omega), show l.length - 1 - j = i by omega, ← ei, hy]
  · rw [if_neg e1]
    by_cases e2 : i = k
    · subst e2
      rw [if_pos rfl, if_pos (by omega), if_pos (by omega), ← hj, ← ej, hx]
    · rw [if_neg e2, h2 k hk]
      by_cases e3 : k < i ∨ l.length - 1 - k < i
      · rw [if_pos e3, if_pos (by omega)]
      · rw [if_neg e3, if_neg (by omega)]
theorem RevI.done {α : Type} {l m : List α} {i : Nat} (h : RevI l m i) (hi : l.length ≤ 2 * i + 1) : m = l.reverse := by
  apply List.ext_getElem?
  intro k
  rcases Nat.lt_or_ge k l.length with hk | hk
  · rw [h.2 k hk, List.getElem?_reverse hk]
    by_cases e3 : k < i ∨ l.length - 1 - k < i
    · rw [if_pos e3]
    · rw [if_neg e3, show l.length - 1 - k = k by omega]
  · rw [List.getElem?_eq_none (by rw [h.1]; exact hk), List.getElem?_eq_none (by rw [List.length_reverse]; exact hk)]

/-! ### The node, the spot -/
def spZ (o : Option Sp) : Sp := o.getD ⟨0, 0⟩
def inSp (p : Int) (s : Sp) : Bool := decide (s.at_ ≤ p) && decide (p < IntKind.i64.wrap (s.at_ + s.size))
def nodeO (inf : Inf) (p : Int) : Option Sp := inf.ends.find? (inSp p)
/-- A function's mark from lo on, at p or before. -/
def mkP (lo p : Int) (m : Mk) : Bool := decide (m.kind = 0) && (decide (lo ≤ m.at_) && decide (m.at_ ≤ p))
def lnP (lo p : Int) (l : Ln) : Bool := decide (lo ≤ l.at_) && decide (l.at_ ≤ p)
def ilP (p : Int) (x : Il) : Bool := decide (x.from_ ≤ p) && decide (p < x.to_)
def vrP (p : Int) (x : Vr) : Bool := decide (x.from_ ≤ p) && decide (p < x.to_)
def markS (inf : Inf) (s : Sp) (p : Int) : Option Mk := (inf.marks.filter (mkP s.at_ p)).getLast?
def lineS (inf : Inf) (s : Sp) (p : Int) : Option Ln := (inf.lines.filter (lnP s.at_ p)).getLast?
def inlS (inf : Inf) (p : Int) : List Il := (inf.inlines.filter (ilP p)).reverse
def sot0 : Sot := ⟨ByteArray.empty, 0, ByteArray.empty, 0, []⟩
def funcS (om : Option Mk) : ByteArray := match om with
  | some m => m.name
  | none => ByteArray.empty
def offS (s : Sp) (p : Int) (om : Option Mk) : Int := match om with
  | some m => IntKind.i64.wrap (p - m.at_)
  | none => IntKind.i64.wrap (p - s.at_)
def fileS (ol : Option Ln) : ByteArray := match ol with
  | some l => l.file
  | none => ByteArray.empty
def linS (ol : Option Ln) : Int := match ol with
  | some l => l.line
  | none => 0
def spotOf (inf : Inf) (p : Int) (s : Sp) : Sot := ⟨funcS (markS inf s p), offS s p (markS inf s p), fileS (lineS inf s p), linS (lineS inf s p), inlS inf p⟩
def atS (inf : Inf) (p : Int) : Sot := match nodeO inf p with
  | some s => spotOf inf p s
  | none => sot0
def atB (inf : Inf) (p : Int) : Bool := (nodeO inf p).isSome

theorem last_some {α : Type} {z : α} {l : List α} (h : lastB l = true) : l.getLast? = some (lastD z l) := by
  unfold lastB at h
  obtain ⟨x, hx⟩ := Option.isSome_iff_exists.1 h
  rw [lastD, hx]
  rfl
theorem last_none {α : Type} {l : List α} (h : lastB l = false) : l.getLast? = none := by
  unfold lastB at h
  cases hl : l.getLast? with
  | none => rfl
  | some x => rw [hl] at h; cases h
theorem at_eq {inf : Inf} {p : Int} (h : (nodeO inf p).isSome = true) : atS inf p = spotOf inf p (spZ (nodeO inf p)) := by
  obtain ⟨s, hs⟩ := Option.isSome_iff_exists.1 h
  rw [atS, hs]
  rfl
theorem at_no {inf : Inf} {p : Int} (h : (nodeO inf p).isSome = false) : atS inf p = sot0 := by
  cases hn : nodeO inf p with
  | none => rw [atS, hn]
  | some s => rw [hn] at h; cases h
def sotC (s : Sot) (iv : Value) : List Value := [.string s.func, .int .i64 s.off, .string s.file, .int .i64 s.line, iv]

def fewB (inf : Inf) : Bool := (((decide ((inf.marks.length : Int) ≤ 60) && decide ((inf.lines.length : Int) ≤ 60)) && decide ((inf.ends.length : Int) ≤ 60)) && decide ((inf.inlines.length : Int) ≤ 60)) && decide ((inf.vars.length : Int) ≤ 60)
theorem fewB_iff {inf : Inf} : fewB inf = true ↔ inf.marks.length ≤ 60 ∧ inf.lines.length ≤ 60 ∧ inf.ends.length ≤ 60 ∧ inf.inlines.length ≤ 60 ∧ inf.vars.length ≤ 60 := by
  unfold fewB
  simp only [Bool.and_eq_true, decide_eq_true_eq]
  omega

/-! ### The variables -/
def hasN (l : List Vr) (s : ByteArray) : Bool := l.any fun y => decide (y.name = s)
/-- Of each name the last. -/
def keepLast : List Vr → List Vr
  | [] => []
  | x :: r => if hasN r x.name then keepLast r else x :: keepLast r
def showV (inf : Inf) (p : Int) : List Vr := inf.vars.filter (vrP p)
def varsS (inf : Inf) (p : Int) : List Vr := if (nodeO inf p).isSome then keepLast (showV inf p) else []
/-- The reference: a later one of the same name puts the former out. -/
def putV (out : List Vr) (x : Vr) : List Vr := out.filter (fun y => decide (y.name ≠ x.name)) ++ [x]
theorem keepLast_snoc (x : Vr) : ∀ l : List Vr, keepLast (l ++ [x]) = putV (keepLast l) x
  | [] => by simp [keepLast, putV, hasN]
  | y :: r => by
    have ih := keepLast_snoc x r
    rw [List.cons_append, keepLast, keepLast]
    have h : hasN (r ++ [x]) y.name = (hasN r y.name || decide (x.name = y.name)) := by simp [hasN]
    rw [h]
    by_cases h1 : hasN r y.name = true
    · simp [h1, ih]
    · have h1 : hasN r y.name = false := by simpa using h1
      by_cases h2 : x.name = y.name
      · simp [h1, h2, ih, putV]
      · simp only [h1, Bool.false_or, decide_eq_true_eq, if_neg h2, Bool.false_eq_true, if_false, ih, putV]
        rw [List.filter_cons_of_pos (by simpa using fun e => h2 e.symm)]
        rfl
/-- The reference's list after the first k variables. -/
def varTo (inf : Inf) (p : Int) (k : Nat) : List Vr := keepLast ((inf.vars.take k).filter (vrP p))
theorem varTo_no {inf : Inf} {p : Int} {k : Nat} (h : k < inf.vars.length) (hn : vrP p inf.vars[k] = false) : varTo inf p (k + 1) = varTo inf p k := by
  unfold varTo
  rw [← List.take_append_getElem h, List.filter_append]
  simp [hn]
theorem varTo_yes {inf : Inf} {p : Int} {k : Nat} (h : k < inf.vars.length) (hn : vrP p inf.vars[k] = true) : varTo inf p (k + 1) = putV (varTo inf p k) inf.vars[k] := by
  unfold varTo
  rw [← keepLast_snoc, ← List.take_append_getElem h, List.filter_append]
  simp [hn]
theorem varTo_all (inf : Inf) (p : Int) : varTo inf p inf.vars.length = keepLast (showV inf p) := by rw [varTo, List.take_length, showV]
theorem keepLast_len : ∀ l : List Vr, (keepLast l).length ≤ l.length
  | [] => Nat.le_refl _
  | x :: r => by
    rw [keepLast]
    have := keepLast_len r
    split <;> simp <;> omega
theorem keepLast_sub : ∀ l : List Vr, ∀ x ∈ keepLast l, x ∈ l
  | [], x, h => by cases h
  | y :: r, x, h => by
    rw [keepLast] at h
    split at h
    · exact List.mem_cons_of_mem _ (keepLast_sub r x h)
    · rcases List.mem_cons.1 h with rfl | h
      · exact List.mem_cons_self ..
      · exact List.mem_cons_of_mem _ (keepLast_sub r x h)
theorem hasN_iff {l : List Vr} {s : ByteArray} : hasN l s = true ↔ ∃ y ∈ l, y.name = s := by simp [hasN]
theorem keepLast_has : ∀ l : List Vr, ∀ x ∈ l, hasN (keepLast l) x.name = true
  | [], x, h => by cases h
  | y :: r, x, h => by
    rw [keepLast]
    by_cases h1 : hasN r y.name = true
    · rw [if_pos h1]
      rcases List.mem_cons.1 h with rfl | h
      · obtain ⟨z, hz, e⟩ := hasN_iff.1 h1
        rw [← e]
        exact keepLast_has r z hz
      · exact keepLast_has r x h
    · rw [if_neg h1]
      rcases List.mem_cons.1 h with rfl | h
      · simp [hasN]
      · have := keepLast_has r x h
        simp only [hasN, List.any_cons, Bool.or_eq_true] at this ⊢
        exact .inr this
theorem keepLast_nodup : ∀ l : List Vr, (keepLast l).Pairwise fun x y => x.name ≠ y.name
  | [] => .nil
  | y :: r => by
    rw [keepLast]
    by_cases h1 : hasN r y.name = true
    · rw [if_pos h1]; exact keepLast_nodup r
    · rw [if_neg h1]
      refine List.pairwise_cons.2 ⟨fun z hz e => h1 ?_, keepLast_nodup r⟩
      exact hasN_iff.2 ⟨z, keepLast_sub r z hz, e.symm⟩
/-- The program's list: the first k of the shown ones, those that a later one does not hide. -/
def keepTo : List Vr → Nat → List Vr
  | _, 0 => []
  | l, k + 1 => if h : k < l.length then (if hasN (l.drop (k + 1)) l[k].name then keepTo l k else keepTo l k ++ [l[k]]) else keepTo l k
theorem keepTo_split (l : List Vr) : ∀ k, k ≤ l.length → keepTo l k ++ keepLast (l.drop k) = keepLast l
  | 0, _ => by simp [keepTo]
  | k + 1, h => by
    have ih := keepTo_split l k (by omega)
    rw [List.drop_eq_getElem_cons (show k < l.length by omega), keepLast] at ih
    rw [keepTo, dif_pos (show k < l.length by omega), ← ih]
    split <;> simp
theorem keepTo_all (l : List Vr) : keepTo l l.length = keepLast l := by
  have := keepTo_split l l.length (Nat.le_refl _)
  simpa [keepLast] using this
theorem keepTo_len (l : List Vr) : ∀ k, (keepTo l k).length ≤ k
  | 0 => Nat.le_refl _
  | k + 1 => by
    have := keepTo_len l k
    rw [keepTo]
    split
    · split
      · omega
      · rw [List.length_append]; simp; omega
    · omega

/-! ### The addresses of a line -/
def lnOf (f : ByteArray) (n : Int) (l : Ln) : Bool := decide (l.file = f) && decide (l.line = n)
def addrS (inf : Inf) (f : ByteArray) (n : Int) : List Int := (inf.lines.filter (lnOf f n)).map (·.at_)
/-- x in its place. -/
def insU (x : Int) : List Int → List Int
  | [] => [x]
  | y :: r => if x < y then x :: y :: r else if x = y then y :: r else y :: insU x r
def ofTo (inf : Inf) (f : ByteArray) (n : Int) (k : Nat) : List Int := (((inf.lines.take k).filter (lnOf f n)).map (·.at_)).foldl (fun o x => insU x o) []
def ofS (inf : Inf) (f : ByteArray) (n : Int) : List Int := (addrS inf f n).foldl (fun o x => insU x o) []

/-! ### A name's address -/
def fnP (s : ByteArray) (m : Mk) : Bool := decide (m.kind = 0) && decide (m.name = s)
def findS (inf : Inf) (s : ByteArray) : Option Mk := inf.marks.find? (fnP s)
def findAt (inf : Inf) (s : ByteArray) : Int := match findS inf s with
  | some m => m.at_
  | none => 0
def findB (inf : Inf) (s : ByteArray) : Bool := (findS inf s).isSome
end Go.LocateLaw
