/- Room: the plain functions and laws; no program in sight. -/
import GoSem.Core.Value
import Derived.IntWalk
namespace Go.RoomLaw

abbrev Sp := Int × Int
def M : Int := 1099511627776
abbrev w64 (n : Int) : Int := IntKind.i64.wrap n
def validB (s : Sp) : Bool := decide (0 ≤ s.1) && decide (s.1 ≤ M) && decide (0 ≤ s.2) && decide (s.2 ≤ w64 (M - s.1))
def endS (s : Sp) : Int := w64 (s.1 + s.2)
def gt (l : List Sp) (i : Nat) : Sp := l.getD i (0, 0)
/-- What is wrong with the element number i. -/
def badAt (l : List Sp) (i : Nat) : Bool := !(validB (gt l i)) || (gt l i).2 == 0 || (decide ((0 : Int) < i) && decide ((gt l i).1 ≤ endS (gt l (i - 1))))
def rightB (l : List Sp) : Bool := (List.range l.length).all fun i => !badAt l i
theorem rightB_false {l : List Sp} {i : Nat} (hi : i < l.length) (h : badAt l i = true) : rightB l = false := by
  unfold rightB
  rw [List.all_eq_false]
  exact ⟨i, by simpa using hi, by simp [h]⟩
theorem rightB_true {l : List Sp} (h : ∀ i, i < l.length → badAt l i = false) : rightB l = true := by
  unfold rightB
  rw [List.all_eq_true]
  intro i hi
  simp [h i (by simpa using hi)]
def sumW (l : List Sp) : Int := l.foldl (fun n s => w64 (n + s.2)) 0
theorem gt_lt {l : List Sp} {k : Nat} (h : k < l.length) : gt l k = l[k] := by simp [gt, h]
theorem sumW_succ (l : List Sp) (k : Nat) (h : k < l.length) : sumW (l.take (k + 1)) = w64 (sumW (l.take k) + (gt l k).2) := by
  unfold sumW
  rw [List.take_succ_eq_append_getElem h, List.foldl_append, gt_lt h]
  rfl
def totB (l : List Sp) : Int := if rightB l then sumW l else 0
def inS (a : Int) (s : Sp) : Bool := decide (s.1 ≤ a) && decide (a < endS s)
def inB (l : List Sp) (a : Int) : Bool := l.any (inS a)
theorem inB_true {l : List Sp} {a : Int} {k : Nat} (h : k < l.length) (hi : inS a (gt l k) = true) : inB l a = true := by
  unfold inB
  rw [List.any_eq_true]
  exact ⟨_, List.getElem_mem h, by rw [← gt_lt h]; exact hi⟩
theorem inB_false {l : List Sp} {a : Int} (h : ∀ k, k < l.length → inS a (gt l k) = false) : inB l a = false := by
  unfold inB
  rw [List.any_eq_false]
  intro s hs
  obtain ⟨k, hk, rfl⟩ := List.getElem_of_mem hs
  rw [← gt_lt hk, h k hk]
  simp
theorem eq_of_gt {l r : List Sp} (hl : l.length = r.length) (h : ∀ k, k < l.length → gt l k = gt r k) : l = r :=
  List.ext_getElem hl fun k h1 h2 => by rw [← gt_lt h1, ← gt_lt h2]; exact h k h1
def neS (s t : Sp) : Bool := !(s.1 == t.1 && s.2 == t.2)
theorem neS_false {s t : Sp} (h : neS s t = false) : s = t := by
  simp only [neS, Bool.not_eq_false', Bool.and_eq_true, beq_iff_eq] at h
  exact Prod.ext h.1 h.2
theorem neS_true {s t : Sp} (h : neS s t = true) : s ≠ t := by
  rintro rfl
  simp [neS] at h
def hasP (s x : Sp) : Bool := decide (x.1 ≤ s.1) && decide (endS s ≤ endS x)
def meetsP (s x : Sp) : Bool := decide (max x.1 s.1 < min (endS x) (endS s))
def hasB (l : List Sp) (s : Sp) : Bool := if (!rightB l || !validB s) = true then false else s.2 == 0 || l.any (hasP s)
def meetsB (l : List Sp) (s : Sp) : Bool := if (!rightB l || !validB s) = true then false else l.any (meetsP s)
def idxI (p : Sp → Bool) (l : List Sp) : Int := match l.findIdx? p with | some i => i | none => -1
theorem findIdx_hit {p : Sp → Bool} {l : List Sp} {k : Nat} (h : k < l.length) (hp : p (gt l k) = true) (hb : ∀ j, j < k → p (gt l j) = false) : idxI p l = k := by
  have h1 : l.findIdx? p = some k := by
    rw [List.findIdx?_eq_some_iff_getElem]
    exact ⟨h, by rw [← gt_lt h]; exact hp, fun j hj => by rw [← gt_lt (Nat.lt_trans hj h), hb j hj]; simp⟩
  rw [idxI, h1]
theorem findIdx_miss {p : Sp → Bool} {l : List Sp} (hb : ∀ j, j < l.length → p (gt l j) = false) : idxI p l = -1 := by
  have h1 : l.findIdx? p = none := by
    rw [List.findIdx?_eq_none_iff]
    intro x hx
    obtain ⟨k, hk, rfl⟩ := List.getElem_of_mem hx
    rw [← gt_lt hk, hb k hk]
  rw [idxI, h1]
theorem idx_any (p : Sp → Bool) (l : List Sp) : decide (0 ≤ idxI p l) = l.any p := by
  unfold idxI
  cases h : l.findIdx? p with
  | none =>
    rw [List.findIdx?_eq_none_iff] at h
    symm
    simp only [Int.reduceNeg, Int.reduceLE, decide_false, List.any_eq_false]
    intro x hx
    simp [h x hx]
  | some i =>
    rw [List.findIdx?_eq_some_iff_getElem] at h
    obtain ⟨h1, h2, _⟩ := h
    have : l.any p = true := List.any_eq_true.2 ⟨_, List.getElem_mem h1, h2⟩
    rw [this]
    simp
def bad4 (x n : Int) : Bool := ((decide (n < 1) || decide (1099511627776 < n)) || decide (x < -1152921504606846976)) || decide (1152921504606846976 < x)
def downW (x n : Int) : Int := if bad4 x n = true then x else w64 (x - (if x.tmod n < 0 then w64 (x.tmod n + n) else x.tmod n))
def upW (x n : Int) : Int := if (downW x n != x) = true then w64 (downW x n + n) else x
def fitBad (l : List Sp) (size align from_ : Int) : Bool :=
  ((((!rightB l || decide (size < 1)) || decide (1099511627776 < size)) || decide (align < 1)) || decide (1099511627776 < align)) || decide (1099511627776 < from_)
def fitGo (size align from_ until_ : Int) : List Sp → Int × Bool
  | [] => (0, false)
  | x :: r => if w64 (upW (max x.1 from_) align + size) ≤ min (endS x) until_ then (upW (max x.1 from_) align, true) else fitGo size align from_ until_ r
def fitB (l : List Sp) (size align from_ until_ : Int) : Int × Bool := if fitBad l size align from_ = true then (0, false) else fitGo size align from_ until_ l
theorem drop_gt {l : List Sp} {k : Nat} (h : k < l.length) : l.drop k = gt l k :: l.drop (k + 1) := by
  rw [List.drop_eq_getElem_cons h, gt_lt h]
def mergeS (x s : Sp) : Sp := (min x.1 s.1, w64 (max (endS x) (endS s) - min x.1 s.1))
def addGo : List Sp → Sp → List Sp
  | [], s => [s]
  | x :: r, s => if endS x < s.1 then x :: addGo r s else if endS s < x.1 then s :: x :: r else addGo r (mergeS x s)
def addB (l : List Sp) (s : Sp) : List Sp := if (((!rightB l || !validB s)) || s.2 == 0) = true then l else addGo l s
theorem addGo_length : ∀ (l : List Sp) (s : Sp), (addGo l s).length ≤ l.length + 1
  | [], s => by simp [addGo]
  | x :: r, s => by
    have h1 := addGo_length r s
    have h2 := addGo_length r (mergeS x s)
    unfold addGo
    split
    · simp; omega
    · split
      · simp
      · simp; omega
theorem addB_length (l : List Sp) (s : Sp) : (addB l s).length ≤ l.length + 1 := by
  unfold addB
  split
  · omega
  · exact addGo_length l s
def keepS (a b : Int) : List Sp := if a < b then [(a, w64 (b - a))] else []
theorem keepS_length (a b : Int) : (keepS a b).length ≤ 1 := by unfold keepS; split <;> simp
def cutOne (s x : Sp) : List Sp := keepS x.1 (min (endS x) s.1) ++ keepS (max x.1 (endS s)) (endS x)
def cutGo (s : Sp) : List Sp → List Sp
  | [] => []
  | x :: r => cutOne s x ++ cutGo s r
def cutB (l : List Sp) (s : Sp) : List Sp := if (((!rightB l || !validB s)) || s.2 == 0) = true then l else cutGo s l
theorem cutGo_length (s : Sp) : ∀ l : List Sp, (cutGo s l).length ≤ 2 * l.length
  | [] => by simp [cutGo]
  | x :: r => by
    have h1 := cutGo_length s r
    have h2 := keepS_length x.1 (min (endS x) s.1)
    have h3 := keepS_length (max x.1 (endS s)) (endS x)
    simp only [cutGo, cutOne, List.length_append, List.length_cons]
    omega
theorem cutB_length (l : List Sp) (s : Sp) : (cutB l s).length ≤ 2 * l.length := by
  unfold cutB
  split
  · omega
  · exact cutGo_length s l
def gi (l : List Int) (i : Nat) : Int := l.getD i 0
theorem gi_lt {l : List Int} {k : Nat} (h : k < l.length) : gi l k = l[k] := by simp [gi, h]
def nthE (l : List Sp) (i : Nat) : Int := if i % 2 = 1 then w64 ((gt l (i / 2)).1 + (gt l (i / 2)).2) else (gt l (i / 2)).1
def posE (out : List Int) (n : Int) : Nat := (out.takeWhile (fun x => decide (x < n))).length
def insB (out : List Int) (n : Int) : Bool := ((posE out n : Int) == out.length) || (gi out (posE out n) != n)
def insE (out : List Int) (n : Int) : List Int := if insB out n = true then out.take (posE out n) ++ [n] ++ out.drop (posE out n) else out
def endsTo (l : List Sp) : Nat → List Int
  | 0 => []
  | k + 1 => insE (endsTo l k) (nthE l k)
def endsL (l : List Sp) : List Int := endsTo l (2 * l.length)
theorem insE_length (out : List Int) (n : Int) : (insE out n).length ≤ out.length + 1 := by
  unfold insE
  split
  · simp; omega
  · omega
theorem endsTo_length (l : List Sp) : ∀ k, (endsTo l k).length ≤ k
  | 0 => Nat.le_refl _
  | k + 1 => by
    have h1 := insE_length (endsTo l k) (nthE l k)
    have h2 := endsTo_length l k
    simp only [endsTo]
    omega
theorem posE_of {out : List Int} {n : Int} {j : Nat} (hj : j ≤ out.length) (hb : ∀ i, i < j → gi out i < n) (he : j = out.length ∨ ¬ gi out j < n) : posE out n = j := by
  unfold posE
  induction out generalizing j with
  | nil => simp at hj; simp [hj]
  | cons x r ih =>
    cases j with
    | zero =>
      have : ¬ x < n := by
        rcases he with h | h
        · simp at h
        · simpa [gi] using h
      simp [this]
    | succ j =>
      have hx : x < n := by simpa [gi] using hb 0 (by omega)
      have hr : (r.takeWhile fun x => decide (x < n)).length = j := by
        refine ih (by simpa using hj) (fun i hi => by simpa [gi] using hb (i + 1) (by omega)) ?_
        rcases he with h | h
        · left; simpa using h
        · right; simpa [gi] using h
      simp [hx, hr]
def skipB (add i_ a_ : Bool) : Bool := ((add && !i_) && !a_) || (!add && (!i_ || a_))
def lastOK (out : List Sp) (n : Int) : Bool := decide ((0 : Int) < out.length) && (endS (gt out (out.length - 1)) == n)
def stepOf (l : List Sp) (s : Sp) (add : Bool) (e : List Int) (out : List Sp) (k : Nat) : List Sp :=
  if skipB add (inB l (gi e k)) (inB [s] (gi e k)) = true then out
  else if lastOK out (gi e k) = true then out.set (out.length - 1) ((gt out (out.length - 1)).1, w64 (gi e (k + 1) - (gt out (out.length - 1)).1))
  else out ++ [(gi e k, w64 (gi e (k + 1) - gi e k))]
def ofTo (l : List Sp) (s : Sp) (add : Bool) (e : List Int) : Nat → List Sp
  | 0 => []
  | k + 1 => stepOf l s add e (ofTo l s add e k) k
def ofL (l : List Sp) (s : Sp) (add : Bool) : List Sp := ofTo l s add (endsL (l ++ [s])) ((endsL (l ++ [s])).length - 1)
theorem stepOf_length (l : List Sp) (s : Sp) (add : Bool) (e : List Int) (out : List Sp) (k : Nat) : (stepOf l s add e out k).length ≤ out.length + 1 := by
  unfold stepOf
  split
  · omega
  · split
    · simp
    · simp
theorem ofTo_length (l : List Sp) (s : Sp) (add : Bool) (e : List Int) : ∀ k, (ofTo l s add e k).length ≤ k
  | 0 => Nat.le_refl _
  | k + 1 => by
    have h1 := stepOf_length l s add e (ofTo l s add e k) k
    have h2 := ofTo_length l s add e k
    simp only [ofTo]
    omega
theorem endsL_length (l : List Sp) : (endsL l).length ≤ 2 * l.length := endsTo_length l _
theorem ofL_length (l : List Sp) (s : Sp) (add : Bool) : (ofL l s add).length ≤ 2 * l.length + 2 := by
  have h1 := ofTo_length l s add (endsL (l ++ [s])) ((endsL (l ++ [s])).length - 1)
  have h2 := endsL_length (l ++ [s])
  simp only [List.length_append, List.length_cons, List.length_nil] at h2
  unfold ofL
  omega
def refAddB (l : List Sp) (s : Sp) : List Sp := if (!rightB l || !validB s) = true then l else ofL l s true
def refCutB (l : List Sp) (s : Sp) : List Sp := if (!rightB l || !validB s) = true then l else ofL l s false
theorem refAddB_length (l : List Sp) (s : Sp) : (refAddB l s).length ≤ 2 * l.length + 2 := by
  unfold refAddB
  split
  · omega
  · exact ofL_length l s true
theorem refCutB_length (l : List Sp) (s : Sp) : (refCutB l s).length ≤ 2 * l.length + 2 := by
  unfold refCutB
  split
  · omega
  · exact ofL_length l s false
def refHasB (l : List Sp) (s : Sp) : Bool := (rightB l && validB s) && (totB (refAddB l s) == totB l)
def refMeetsB (l : List Sp) (s : Sp) : Bool := (rightB l && validB s) && decide (totB (refCutB l s) < totB l)
def refA (x : Sp) (align from_ : Int) : Int := if ((max x.1 from_).tmod align != 0) = true then w64 (w64 (max x.1 from_ - (max x.1 from_).tmod align) + align) else max x.1 from_
def refFitGo (size align from_ until_ : Int) : List Sp → Int × Bool
  | [] => (0, false)
  | x :: r => if (decide (w64 (refA x align from_ + size) ≤ endS x) && decide (w64 (refA x align from_ + size) ≤ until_)) = true then (refA x align from_, true) else refFitGo size align from_ until_ r
def refFitB (l : List Sp) (size align from_ until_ : Int) : Int × Bool := if fitBad l size align from_ = true then (0, false) else refFitGo size align from_ until_ l
end Go.RoomLaw
