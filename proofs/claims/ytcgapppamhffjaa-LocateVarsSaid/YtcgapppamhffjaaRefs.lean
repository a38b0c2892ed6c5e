/- Locate: what the reference's loops hold on their way. -/
import Derived.Test.YtcgapppamhffjaaW13
namespace Go.LocateLaw
def markT (inf : Inf) (s : Sp) (p : Int) (k : Nat) : Option Mk := ((inf.marks.take k).filter (mkP s.at_ p)).getLast?
def lineT (inf : Inf) (s : Sp) (p : Int) (k : Nat) : Option Ln := ((inf.lines.take k).filter (lnP s.at_ p)).getLast?
def inlT (inf : Inf) (p : Int) (k : Nat) : List Il := ((inf.inlines.drop k).filter (ilP p)).reverse
theorem last_yes {α : Type} {l : List α} {p : α → Bool} {k : Nat} (h : k < l.length) (hp : p l[k] = true) : ((l.take (k + 1)).filter p).getLast? = some l[k] := by
  rw [filt_yes h hp, List.getLast?_concat]
theorem last_no {α : Type} {l : List α} {p : α → Bool} {k : Nat} (h : k < l.length) (hp : p l[k] = false) : ((l.take (k + 1)).filter p).getLast? = ((l.take k).filter p).getLast? := by
  rw [filt_no h hp]
theorem markT_yes {inf : Inf} {s : Sp} {p : Int} {k : Nat} (h : k < inf.marks.length) (hp : mkP s.at_ p inf.marks[k] = true) : markT inf s p (k + 1) = some inf.marks[k] := last_yes h hp
theorem markT_no {inf : Inf} {s : Sp} {p : Int} {k : Nat} (h : k < inf.marks.length) (hp : mkP s.at_ p inf.marks[k] = false) : markT inf s p (k + 1) = markT inf s p k := last_no h hp
theorem lineT_yes {inf : Inf} {s : Sp} {p : Int} {k : Nat} (h : k < inf.lines.length) (hp : lnP s.at_ p inf.lines[k] = true) : lineT inf s p (k + 1) = some inf.lines[k] := last_yes h hp
theorem lineT_no {inf : Inf} {s : Sp} {p : Int} {k : Nat} (h : k < inf.lines.length) (hp : lnP s.at_ p inf.lines[k] = false) : lineT inf s p (k + 1) = lineT inf s p k := last_no h hp
theorem markT_all (inf : Inf) (s : Sp) (p : Int) : markT inf s p inf.marks.length = markS inf s p := by rw [markT, List.take_length, markS]
theorem lineT_all (inf : Inf) (s : Sp) (p : Int) : lineT inf s p inf.lines.length = lineS inf s p := by rw [lineT, List.take_length, lineS]
theorem inlT_all (inf : Inf) (p : Int) : inlT inf p inf.inlines.length = [] := by rw [inlT, List.drop_length]; rfl
theorem inlT_len (inf : Inf) (p : Int) (k : Nat) : (inlT inf p k).length ≤ inf.inlines.length := by
  rw [inlT, List.length_reverse]
  exact Nat.le_trans (List.length_filter_le ..) (by simp)
theorem inlT_yes {inf : Inf} {p : Int} {k : Nat} (h0 : 0 < k) (h : k - 1 < inf.inlines.length) (hp : ilP p inf.inlines[k - 1] = true) : inlT inf p (k - 1) = inlT inf p k ++ [inf.inlines[k - 1]] := by
  rw [inlT, List.drop_eq_getElem_cons h, List.filter_cons_of_pos hp, List.reverse_cons, inlT, Nat.sub_add_cancel h0]
theorem inlT_no {inf : Inf} {p : Int} {k : Nat} (h0 : 0 < k) (h : k - 1 < inf.inlines.length) (hp : ilP p inf.inlines[k - 1] = false) : inlT inf p (k - 1) = inlT inf p k := by
  rw [inlT, List.drop_eq_getElem_cons h, List.filter_cons_of_neg (by rw [hp]; exact Bool.false_ne_true), inlT, Nat.sub_add_cancel h0]
theorem varTo_len (inf : Inf) (p : Int) (k : Nat) : (varTo inf p k).length ≤ inf.vars.length := by
  rw [varTo]
  refine Nat.le_trans (keepLast_len _) (Nat.le_trans (List.length_filter_le ..) ?_)
  rw [List.length_take]; omega
/-- Those of another name. -/
def other (s : ByteArray) (y : Vr) : Bool := decide (y.name ≠ s)
theorem putV_eq (out : List Vr) (x : Vr) : putV out x = out.filter (other x.name) ++ [x] := rfl
/-! ### The insertion of an address -/
/-- Where x goes: all from j on are greater. -/
def AllGt (o : List Int) (x : Int) (j : Nat) : Prop := ∀ i (h : i < o.length), j ≤ i → x < o[i]
theorem insU_at : ∀ (o : List Int) (x : Int) (j : Nat), o.Pairwise (· < ·) → j ≤ o.length → AllGt o x j → (0 < j → ∃ h : j - 1 < o.length, o[j - 1] ≤ x) →
    insU x o = if 0 < j ∧ o[j - 1]? = some x then o else o.take j ++ x :: o.drop j
  | [], x, j, _, hj, _, _ => by
    have : j = 0 := by simpa using hj
    subst this
    simp [insU]
  | y :: r, x, 0, _, _, hg, _ => by
    have := hg 0 (by simp) (Nat.le_refl _)
    simp at this
    simp [insU, this]
  | y :: r, x, j + 1, hs, hj, hg, hl => by
    have hs2 := List.pairwise_cons.1 hs
    obtain ⟨hl1, hl2⟩ := hl (by omega)
    simp only [Nat.add_sub_cancel] at hl1 hl2
    cases j with
    | zero =>
      simp only [List.getElem_cons_zero] at hl2
      have h1 : ¬ x < y := by omega
      by_cases h2 : x = y
      · subst h2; simp [insU]
      · have e : insU x r = x :: r := by
          cases r with
          | nil => rfl
          | cons z r' =>
            have := hg 1 (by simp) (Nat.le_refl _)
            simp at this
            simp [insU, this]
        simp [insU, h1, h2, e]
        intro e; exact absurd e.symm h2
    | succ j =>
      have hj1 : j < r.length := by simpa using hl1
      have hyr : y < r[j] := hs2.1 _ (List.getElem_mem hj1)
      simp only [List.getElem_cons_succ] at hl2
      have ih := insU_at r x (j + 1) hs2.2 (by simpa using hj) (fun i h hi => by have := hg (i + 1) (by simpa using h) (by omega); simpa using this) (fun _ => ⟨by simpa using hj1, by simpa using hl2⟩)
      have h1 : ¬ x < y := by omega
      have h2 : x ≠ y := by omega
      rw [insU, if_neg h1, if_neg h2, ih]
      simp only [Nat.add_sub_cancel, Nat.zero_lt_succ, true_and, List.getElem?_cons_succ]
      split <;> simp
theorem insU_mem (x : Int) : ∀ (o : List Int) (y : Int), y ∈ insU x o ↔ y = x ∨ y ∈ o
  | [], y => by simp [insU]
  | z :: r, y => by
    rw [insU]
    split
    · simp
    · split
      · rename_i h; subst h; simp
      · simp [insU_mem x r y]; grind
theorem insU_sorted (x : Int) : ∀ (o : List Int), o.Pairwise (· < ·) → (insU x o).Pairwise (· < ·)
  | [], _ => by simp [insU]
  | z :: r, h => by
    have h2 := List.pairwise_cons.1 h
    rw [insU]
    split
    · rename_i h1
      refine List.pairwise_cons.2 ⟨fun y hy => ?_, h⟩
      rcases List.mem_cons.1 hy with rfl | hy
      · exact h1
      · have := h2.1 y hy; omega
    · split
      · exact h
      · rename_i h1 h3
        refine List.pairwise_cons.2 ⟨fun y hy => ?_, insU_sorted x r h2.2⟩
        rcases (insU_mem x r y).1 hy with rfl | hy
        · omega
        · exact h2.1 y hy
theorem insU_length (x : Int) : ∀ o : List Int, (insU x o).length ≤ o.length + 1
  | [] => by simp [insU]
  | z :: r => by
    have := insU_length x r
    rw [insU]
    split
    · simp
    · split <;> simp <;> omega
theorem fold_sorted : ∀ (l o : List Int), o.Pairwise (· < ·) → (l.foldl (fun o x => insU x o) o).Pairwise (· < ·)
  | [], _, h => h
  | x :: r, o, h => fold_sorted r _ (insU_sorted x o h)
theorem fold_mem : ∀ (l o : List Int) (y : Int), y ∈ l.foldl (fun o x => insU x o) o ↔ y ∈ o ∨ y ∈ l
  | [], _, _ => by simp
  | x :: r, o, y => by
    rw [List.foldl_cons, fold_mem r, insU_mem]
    simp only [List.mem_cons]
    grind
theorem fold_length : ∀ (l o : List Int), (l.foldl (fun o x => insU x o) o).length ≤ o.length + l.length
  | [], _ => by simp
  | x :: r, o => by
    have h1 := fold_length r (insU x o)
    have h2 := insU_length x o
    rw [List.foldl_cons, List.length_cons]
    omega
theorem ofTo_sorted (inf : Inf) (f : ByteArray) (n : Int) (k : Nat) : (ofTo inf f n k).Pairwise (· < ·) := fold_sorted _ _ .nil
theorem ofTo_len (inf : Inf) (f : ByteArray) (n : Int) (k : Nat) : (ofTo inf f n k).length ≤ inf.lines.length := by
  have := fold_length (((inf.lines.take k).filter (lnOf f n)).map (·.at_)) []
  rw [List.length_map] at this
  have h2 := List.length_filter_le (lnOf f n) (inf.lines.take k)
  rw [List.length_take] at h2
  rw [ofTo]
  simp only [List.length_nil] at this
  omega
theorem ofTo_no {inf : Inf} {f : ByteArray} {n : Int} {k : Nat} (h : k < inf.lines.length) (hp : lnOf f n inf.lines[k] = false) : ofTo inf f n (k + 1) = ofTo inf f n k := by
  rw [ofTo, filt_no h hp, ofTo]
theorem ofTo_yes {inf : Inf} {f : ByteArray} {n : Int} {k : Nat} (h : k < inf.lines.length) (hp : lnOf f n inf.lines[k] = true) : ofTo inf f n (k + 1) = insU inf.lines[k].at_ (ofTo inf f n k) := by
  rw [ofTo, filt_yes h hp, List.map_append, List.foldl_append]
  rfl
theorem ofTo_all (inf : Inf) (f : ByteArray) (n : Int) : ofTo inf f n inf.lines.length = ofS inf f n := by rw [ofTo, List.take_length]; rfl
/-- Two ascending lists with the same members are the same. -/
theorem sorted_ext : ∀ (a b : List Int), a.Pairwise (· < ·) → b.Pairwise (· < ·) → (∀ y, y ∈ a ↔ y ∈ b) → a = b
  | [], [], _, _, _ => rfl
  | [], y :: r, _, _, h => by have := (h y).2 (List.mem_cons_self ..); cases this
  | y :: r, [], _, _, h => by have := (h y).1 (List.mem_cons_self ..); cases this
  | x :: r, y :: s, ha, hb, h => by
    have ha2 := List.pairwise_cons.1 ha
    have hb2 := List.pairwise_cons.1 hb
    have hxy : x = y := by
      rcases List.mem_cons.1 ((h x).1 (List.mem_cons_self ..)) with e | e
      · exact e
      · rcases List.mem_cons.1 ((h y).2 (List.mem_cons_self ..)) with e2 | e2
        · exact e2.symm
        · have h1 := ha2.1 _ e2; have h2 := hb2.1 _ e; omega
    subst hxy
    rw [sorted_ext r s ha2.2 hb2.2 fun z => ?_]
    constructor
    · intro hz
      rcases List.mem_cons.1 ((h z).1 (List.mem_cons_of_mem _ hz)) with e | e
      · subst e; have := ha2.1 _ hz; omega
      · exact e
    · intro hz
      rcases List.mem_cons.1 ((h z).2 (List.mem_cons_of_mem _ hz)) with e | e
      · subst e; have := hb2.1 _ hz; omega
      · exact e
end Go.LocateLaw
