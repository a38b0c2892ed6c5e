/- Room: what the five statements compute, as plain functions. -/
import Derived.Test.YtnnmeipmkfbpdaaSpec
namespace Go.RoomLaw

def tellsGo (l : List Sp) (s : Sp) (size align from_ until_ : Int) : Bool :=
  (((((((true && ((fitB l size align from_ until_).1 == (refFitB l size align from_ until_).1)) && ((fitB l size align from_ until_).2 == (refFitB l size align from_ until_).2)) && decide (addB l s = refAddB l s)) && decide (cutB l s = refCutB l s))
    && (rightB l == rightB l)) && (totB l == totB l)) && (hasB l s == refHasB l s)) && (meetsB l s == refMeetsB l s)
def lawTells (l : List Sp) (s : Sp) (size align from_ until_ : Int) : Bool := bif decide ((40 : Int) < l.length) then true else tellsGo l s size align from_ until_
def countsBad (l : List Sp) (s : Sp) : Bool :=
  ((((decide ((40 : Int) < l.length) || !rightB l) || decide (s.1 < 0)) || decide (1099511627776 < s.1)) || decide (s.2 < 0)) || decide (w64 (1099511627776 - s.1) < s.2)
def setsBad (l : List Sp) (s : Sp) (a : Int) : Bool := (countsBad l s || decide (a < 0)) || decide (1099511627776 ≤ a)
def alsoB (s : Sp) (a : Int) : Bool := decide (s.1 ≤ a) && decide (a < w64 (s.1 + s.2))
def setsGo (l : List Sp) (s : Sp) (a : Int) : Bool :=
  ((((true && rightB (addB l s)) && rightB (cutB l s)) && (hasB (addB l s) (a, 1) == (hasB l (a, 1) || alsoB s a))) && (hasB (cutB l s) (a, 1) == (hasB l (a, 1) && !alsoB s a))) && (meetsB l (a, 1) == hasB l (a, 1))
def lawSets (l : List Sp) (s : Sp) (a : Int) : Bool := bif setsBad l s a then true else setsGo l s a
def countsGo (l : List Sp) (s : Sp) : Bool :=
  ((true && (w64 (w64 (w64 (totB (addB l s) - totB l) + totB l) - totB (cutB l s)) == s.2)) && (hasB l s == (totB (addB l s) == totB l))) && (meetsB l s == decide (totB (cutB l s) < totB l))
def lawCounts (l : List Sp) (s : Sp) : Bool := bif countsBad l s then true else countsGo l s
def addOn (z l : List Sp) : List Sp := l.foldl addB z
def cutOn (z l : List Sp) : List Sp := l.foldl cutB z
def ordersGo (l : List Sp) : Bool :=
  (((true && decide (addOn [] l = addOn [] l.reverse)) && decide (addOn [] l = addOn (addOn [] l) (addOn [] l))) && rightB (addOn [] l)) && (((cutOn (addOn [] l) l).length : Int) == 0)
def lawOrders (l : List Sp) : Bool := bif decide ((20 : Int) < l.length) then true else ordersGo l
def fitsBad (l : List Sp) (size align : Int) : Bool :=
  ((((decide ((40 : Int) < l.length) || !rightB l) || decide (size < 1)) || decide (1099511627776 < size)) || decide (align < 1)) || decide (1099511627776 < align)
def fitsC1 (r : Int × Bool) : Bool := !r.2 && (r.1 != 0)
def fitsC2 (l : List Sp) (r : Int × Bool) (size align from_ until_ : Int) : Bool :=
  r.2 && ((((r.1.tmod align != 0) || decide (r.1 < max 0 from_)) || decide (until_ < w64 (r.1 + size))) || !hasB l (r.1, size))
def fitsC3 (align n : Int) : Bool := decide (0 ≤ n) && decide (n ≤ w64 ((1099511627776 : Int).tdiv align))
def fineB (b size from_ until_ : Int) : Bool := ((decide (from_ ≤ b) && decide (b ≤ w64 (until_ - size))) && decide (until_ ≤ 1099511627776)) && decide (size ≤ until_)
def fitsC4 (l : List Sp) (r : Int × Bool) (b size from_ until_ : Int) : Bool := (fineB b size from_ until_ && (!r.2 || decide (b < r.1))) && hasB l (b, size)
def fitsEnd (l : List Sp) (r : Int × Bool) (size align from_ until_ : Int) : Bool :=
  true && (!(fitB (cutB l (r.1, size)) size align from_ until_).2 || decide (w64 (r.1 + size) ≤ (fitB (cutB l (r.1, size)) size align from_ until_).1))
def fitsGo (l : List Sp) (r : Int × Bool) (size align from_ until_ n : Int) : Bool :=
  bif fitsC1 r then false else
  bif fitsC2 l r size align from_ until_ then false else
  bif (fitsC3 align n && fitsC4 l r (w64 (n * align)) size from_ until_) then false else
  bif !r.2 then true else fitsEnd l r size align from_ until_
def lawFits (l : List Sp) (size align from_ until_ n : Int) : Bool := bif fitsBad l size align then true else fitsGo l (fitB l size align from_ until_) size align from_ until_ n
theorem addOn_succ (z l : List Sp) {k : Nat} (h : k < l.length) : addOn z (l.take (k + 1)) = addB (addOn z (l.take k)) (gt l k) := by
  unfold addOn
  rw [List.take_succ_eq_append_getElem h, List.foldl_append, gt_lt h]
  rfl
theorem cutOn_succ (z l : List Sp) {k : Nat} (h : k < l.length) : cutOn z (l.take (k + 1)) = cutB (cutOn z (l.take k)) (gt l k) := by
  unfold cutOn
  rw [List.take_succ_eq_append_getElem h, List.foldl_append, gt_lt h]
  rfl
theorem addOn_length (l : List Sp) : ∀ z : List Sp, (addOn z l).length ≤ z.length + l.length := by
  induction l with
  | nil => intro z; exact Nat.le_refl _
  | cons s r ih =>
    intro z
    have h1 := ih (addB z s)
    have h2 := addB_length z s
    show (addOn (addB z s) r).length ≤ _
    simp only [List.length_cons]
    omega
theorem gt_reverse {l : List Sp} {k : Nat} (h : k < l.length) : gt l.reverse k = gt l (l.length - 1 - k) := by
  rw [gt_lt (by simpa using h), gt_lt (by omega), List.getElem_reverse]
end Go.RoomLaw
