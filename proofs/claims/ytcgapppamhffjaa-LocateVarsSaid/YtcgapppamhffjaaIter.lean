/- What an iterator knows between its calls of yield; maps that are sets of integers; the ends of a loop's rounds. -/
import Derived.Test.YtcgapppamhffjaaRange
import Derived.Test.YtcgapppamhffjaaMap
import Derived.Test.YtcgapppamhffjaaQueue
namespace Go.XK
open Go.RowKit

structure It (S : Nat → Prop) (W0 : World) (JJ : (Nat → Prop) → World → Prop) (Si : Nat → Prop) (w : World) : Prop where
  hj : JJ Si w
  md : Mod S W0 w
  old : ∀ b, b < W0.heap.size → Si b → S b
section
variable {P : Program} {S Si : Nat → Prop} {W0 w w' : World} {JJ : (Nat → Prop) → World → Prop}
theorem It.step (h : It S W0 JJ Si w) (st : Stays W0.heap.size JJ) (m : Mod (fun b => W0.heap.size ≤ b ∧ ¬ Si b) w w') : It S W0 JJ Si w' :=
  ⟨st _ _ _ h.hj m, h.md.then m (fun x hx hs => by have := hs.1; omega), h.old⟩
theorem It.ext (h : It S W0 JJ Si w) (st : Stays W0.heap.size JJ) (e : Ext w w') : It S W0 JJ Si w' := h.step st (e.mod _)
theorem It.start (h : JJ S W0) : It S W0 JJ S W0 := ⟨h, Mod.refl _ _, fun _ _ h => h⟩
theorem It.base {w00 : World} (h : It S W0 JJ Si w) (hx : Ext w00 W0) (hS : ∀ b, b < w00.heap.size → ¬ S b) : Ext w00 w := hx.modify h.md fun k hk => Nat.le_of_not_lt fun hl => hS k hl hk
theorem Yields.mono {l : Nat} {vs : List Value} {R R' : Value → World → Prop} (h : Yields P l vs w R) (hr : ∀ v w', R v w' → R' v w') : Yields P l vs w R' := by
  obtain ⟨f, tmps, assign, body, h1, h2⟩ := h
  exact ⟨f, tmps, assign, body, h1, h2.mono fun e w' ⟨v, he, hv⟩ => ⟨v, he, hr v w' hv⟩⟩
theorem It.yields {l : Nat} {J : Nat → (Nat → Prop) → World → Prop} {X : (Nat → Prop) → World → Prop} {xs : List (List Value)} {i : Nat} {vs : List Value}
    (hy : ∀ k S W (hk : k < xs.length), J k S W → Yields P l xs[k] W (fun v W' => ∃ S', Mod S W W' ∧ (∀ b, b < W.heap.size → S' b → S b) ∧ ((v = .bool true ∧ J (k + 1) S' W') ∨ (v = .bool false ∧ X S' W'))))
    (h : It S W0 (J i) Si w) (hi : i < xs.length) (hv : xs[i] = vs) :
    Yields P l vs w (fun v W' => ∃ S', Mod Si w W' ∧ (∀ b, b < w.heap.size → S' b → Si b) ∧ ∃ c, v = .bool c ∧ (c = true → It S W0 (J (i + 1)) S' W') ∧ (c = false → It S W0 X S' W')) := by
  subst hv
  refine (hy i Si w hi h.hj).mono fun v W' ⟨S', h1, h2, h3⟩ => ⟨S', h1, h2, ?_⟩
  have hm : Mod S W0 W' := h.md.then h1 h.old
  have ho : ∀ b, b < W0.heap.size → S' b → S b := fun b hb hs => h.old b hb (h2 b (Nat.lt_of_lt_of_le hb h.md.size) hs)
  rcases h3 with ⟨e, hj⟩ | ⟨e, hj⟩
  · exact ⟨true, e, (fun _ => ⟨hj, hm, ho⟩), (fun h => by cases h)⟩
  · exact ⟨false, e, (fun h => by cases h), (fun _ => ⟨hj, hm, ho⟩)⟩
theorem Ext.obj {b : Nat} {o : Obj} (he : Ext w w') (h : w.heap[b]? = some o) : w'.heap[b]? = some o := (he.block b (Array.getElem?_eq_some_iff.1 h).1).trans h
theorem It.mark {D : Nat} (h : It S W0 JJ Si w) (st : Stays W0.heap.size JJ) (hD : W0.heap.size ≤ D) (hn : ¬ Si D) (hm : Mod (fun b => b ∈ [D]) w w') : It S W0 JJ Si w' :=
  h.step st (hm.mono fun b _ hb => by rw [List.mem_singleton] at hb; subst hb; exact ⟨hD, hn⟩)
theorem It.mark0 (h : It S W0 JJ Si w) (st : Stays W0.heap.size JJ) (hm : Mod (fun b => b ∈ []) w w') : It S W0 JJ Si w' := h.step st (hm.mono fun b _ hb => by cases hb)
theorem It.notOld {b : Nat} (h : It S W0 JJ Si w) (hb : b < W0.heap.size) (hS : ¬ S b) : ¬ Si b := fun hs => hS (h.old b hb hs)
/-- The end of an iterator. -/
theorem It.done {J : Nat → (Nat → Prop) → World → Prop} {X : (Nat → Prop) → World → Prop} {i n : Nat} {v : Value} {e : Ending} (he : e = .returned v) (h : It S W0 (J i) Si w) (hn : i = n) :
    ∃ v S', e = .returned v ∧ Mod S W0 w ∧ (∀ b, b < W0.heap.size → S' b → S b) ∧ (J n S' w ∨ X S' w) := ⟨v, Si, he, h.md, h.old, .inl (hn ▸ h.hj)⟩
theorem It.stop {J : Nat → (Nat → Prop) → World → Prop} {X : (Nat → Prop) → World → Prop} {n : Nat} {v : Value} {e : Ending} (he : e = .returned v) (h : It S W0 X Si w) :
    ∃ v S', e = .returned v ∧ Mod S W0 w ∧ (∀ b, b < W0.heap.size → S' b → S b) ∧ (J n S' w ∨ X S' w) := ⟨v, Si, he, h.md, h.old, .inr h.hj⟩
end

/-- What the rounds answer. -/
def HY (P : Program) (l : Nat) (J : Nat → (Nat → Prop) → World → Prop) (X : (Nat → Prop) → World → Prop) (xs : List (List Value)) : Prop :=
  ∀ k S W (hk : k < xs.length), J k S W → Yields P l xs[k] W (fun v W' => ∃ S', Mod S W W' ∧ (∀ b, b < W.heap.size → S' b → S b) ∧ ((v = .bool true ∧ J (k + 1) S' W') ∨ (v = .bool false ∧ X S' W')))
theorem SeqC.of {P : Program} {gf : Nat} {caps : List Value} {mem : Nat → Prop} {xs : List (List Value)} {W0 : World}
    (h : ∀ (l : Nat) (J : Nat → (Nat → Prop) → World → Prop) (X : (Nat → Prop) → World → Prop), (∀ k, Stays W0.heap.size (J k)) → Stays W0.heap.size X → (∀ k S W, J k S W → ∀ b, S b → b < W.heap.size) → HY P l J X xs →
      ∀ S, (∀ b, mem b → ¬ S b) → (∀ b, S b → b < W0.heap.size) → It S W0 (J 0) S W0 →
      Calls P gf (.func (.yield l) #[] #[] :: caps).toArray W0 (fun e W' => ∃ v S', e = .returned v ∧ Mod S W0 W' ∧ (∀ b, b < W0.heap.size → S' b → S b) ∧ (J xs.length S' W' ∨ X S' W'))) : SeqC P gf caps mem xs W0 :=
  fun l J X h1 h2 h3 h4 S h5 h6 => h l J X h1 h2 h3 h4 S h5 (h3 0 S W0 h6) (It.start h6)

/-! ### Three results -/
section
variable {P : Program} {N : Nat} {env : List (Nat × Value)} {w : World}
theorem AQ.ret3 {fn : Func} {R : Ending → World → Prop} {t u s : Nat} {v x y : Value} (hr : fn.results = #[.tmp t, .tmp u, .tmp s]) (hl : look env t = some v) (hl' : look env u = some x) (hl2 : look env s = some y) (h : R (.returned (.tuple #[v, x, y])) w) : AQ [] .ret (bodyPost P fn R) N env w :=
  fun a ha => bodyPost_ret (by simp [results, hr, -Array.getD_eq_getD_getElem?]; rfl) ha.defers (by rw [ha.has t v hl, ha.has u x hl', ha.has s y hl2]; exact h)
theorem run_loadVar_flat {t : TypeId} {b : Nat} {v : Value} {T : TypeId} (ht : Flat P t) (hr : Row w b T [v]) : (loadVar t ⟨b, 0, none⟩).run P w = .ok v w := by
  have hc : w.cell? ⟨b, 0, none⟩ = some v := hr.cell rfl
  unfold Flat at ht
  have hagg : (isAgg t).run P w = .ok false w := by
    cases hu : P.underlying t with
    | none => rw [hu] at ht; cases ht
    | some D =>
      rw [hu] at ht
      cases D <;> first | (cases ht; done) | simp [isAgg, run_underlying hu]
  simp [loadVar, hagg, hc]
theorem resC3 {fn : Func} {t u s b1 b2 b3 : Nat} {rt1 rt2 rt3 T1 T2 T3 : TypeId} {v x y : Value} (hr : fn.results = #[.cell t rt1, .cell u rt2, .cell s rt3]) (f1 : Flat P rt1) (f2 : Flat P rt2) (f3 : Flat P rt3)
    (hl : look env t = some (.pointer (some ⟨b1, 0, none⟩))) (hl' : look env u = some (.pointer (some ⟨b2, 0, none⟩))) (hl2 : look env s = some (.pointer (some ⟨b3, 0, none⟩))) (r1 : Row w b1 T1 [v]) (r2 : Row w b2 T2 [x]) (r3 : Row w b3 T3 [y])
    (dl : List Deferred) (a : Act) (ha : OK dl a env N) : (results fn a.tmps).run P w = .ok (.tuple #[v, x, y]) w := by
  have h1 := ha.has t _ hl
  have h2 := ha.has u _ hl'
  have h3 := ha.has s _ hl2
  rw [Array.getD_eq_getD_getElem?] at h1 h2 h3
  simp [results, hr, h1, h2, h3, asAddr, run_loadVar_flat f1 r1, run_loadVar_flat f2 r2, run_loadVar_flat f3 r3]
theorem leaves_marksC {fn : Func} {R : Ending → World → Prop} {tmps : Array Value} {v : Value} : ∀ (Ds : List Nat) (w : World), (∀ w', Mod (fun b => b ∈ Ds) w w' → (results fn tmps).run P w' = .ok v w') → Ds.Nodup → (∀ D ∈ Ds, w.heap[D]? = some (.deferred (some []))) →
    (∀ w', Mod (fun b => b ∈ Ds) w w' → R (.returned v) w') → LeavesInM Fence.wide 0 P fn tmps R (Ds.map mark) .returning w
  | [], w, hres, _, _, h => ⟨v, hres w (Mod.refl _ _), h w (Mod.refl _ _)⟩
  | D :: Ds, w, hres, hn, hd, h => by
    rw [List.nodup_cons] at hn
    have key : ∀ w', Mod (fun b => b ∈ Ds) (w.putObj D (.deferred none)) w' → Mod (fun b => b ∈ D :: Ds) w w' := fun w' hm => (Mod.put w _ (List.mem_cons_self ..)).trans (hm.mono fun b _ hb => List.mem_cons_of_mem _ hb)
    refine ⟨by simp, .inl ⟨_, _, rfl, run_takeDeferred (hd D (List.mem_cons_self ..)), leaves_marksC Ds _ (fun w' hm => hres w' (key w' hm)) hn.2 (fun E hE => ?_) (fun w' hm => h w' (key w' hm))⟩⟩
    rw [World.putObj_heap_other (fun e => by subst e; exact hn.1 hE)]
    exact hd E (List.mem_cons_of_mem _ hE)
theorem AQ.outC {fn : Func} {R : Ending → World → Prop} {e : Exit} {v : Value} (he : e = .normal ∨ e = .ret) (Ds : List Nat) (hres : ∀ (dl : List Deferred) a, OK dl a env N → ∀ w' : World, Mod (fun b => b ∈ Ds) w w' → (results fn a.tmps).run P w' = .ok v w') (hn : Ds.Nodup)
    (hd : ∀ D ∈ Ds, w.heap[D]? = some (.deferred (some []))) (h : ∀ w', Mod (fun b => b ∈ Ds) w w' → R (.returned v) w') : AQ (Ds.map mark) e (bodyPostM Fence.wide 0 P fn R) N env w := fun a ha => by
  have := leaves_marksC (P := P) (R := R) Ds w (hres _ a ha) hn hd h
  rw [← ha.defers] at this
  rcases he with rfl | rfl <;> exact this
end

/-! ### The ends of rounds -/
section
variable {dl : List Deferred} {N : Nat} {env : List (Nat × Value)} {W w : World} {I : Nat → (Nat → Prop) → World → Prop} {Ix : Code → (Nat → Prop) → World → Prop} {k : Nat} {S : Nat → Prop}
theorem AQ.assigned {E : List (Nat × Value)} {Q : Exit → Act → World → Prop} (ts : List Nat) (hs : XK.sub env ts = some E) (h : Ext W w) : AQ [] .normal (Exit.then (fun a W' => OK [] a E N ∧ Ext W W') Q) N env w := fun _ ha => ⟨ha.sub ts hs, h⟩
theorem AQ.rqN (S' : Nat → Prop) (h1 : Mod S W w) (h2 : ∀ b, b < W.heap.size → S' b → S b) (h3 : I (k + 1) S' w) : AQ dl .normal (RQ I Ix k S W) N env w := fun _ _ => ⟨S', h1, h2, h3⟩
theorem AQ.rqR (S' : Nat → Prop) (h1 : Mod S W w) (h2 : ∀ b, b < W.heap.size → S' b → S b) (h3 : Ix .ret S' w) : AQ dl .ret (RQ I Ix k S W) N env w := fun _ _ => ⟨S', h1, h2, h3⟩
theorem AQ.rqE {id : Nat} (S' : Nat → Prop) (h1 : Mod S W w) (h2 : ∀ b, b < W.heap.size → S' b → S b) (h3 : Ix (.exit id) S' w) : AQ dl (.exit id) (RQ I Ix k S W) N env w := fun _ _ => ⟨S', h1, h2, h3⟩
end

/-! ### Maps that are sets -/
/-- The keys of m are the members of l, all with true. -/
def Seen {α : Type} [DecidableEq α] (m : List (α × Value)) (l : List α) : Prop := ∀ x, mget m x = if x ∈ l then some (.bool true) else none
section
variable {α : Type} [DecidableEq α] {m : List (α × Value)} {l : List α}
theorem Seen.nil : Seen ([] : List (α × Value)) [] := fun x => by simp [mget_nil]
theorem Seen.put (h : Seen m l) (x : α) : Seen (mput m x (.bool true)) (l ++ [x]) := fun y => by
  rw [mget_put, h y]
  by_cases hy : y = x
  · simp [hy]
  · simp [hy]
theorem Seen.get (h : Seen m l) (x : α) : (mget m x).getD (.bool false) = .bool (decide (x ∈ l)) := by
  rw [h x]
  by_cases hx : x ∈ l
  · simp [hx]
  · simp [hx]
end

/-! ### A walk in breadth: the set (block bs) and the queue qv, which are the iterator's own -/
structure QInv (B : Nat) (bs : Nat) (e : TypeId) (Si : Nat → Prop) (m : List (Int × Value)) (qv : Value) (seen q : List Int) (w : World) : Prop where
  bb : B ≤ bs
  ns : ¬ Si bs
  hm : MRow w bs (Value.int .i64) m
  sn : Seen m seen
  own : OwnQ w B e 1 qv q.length (q.map (Value.int .i64))
  nq : ∀ b, qv.ownBlock = some b → ¬ Si b ∧ b ≠ bs
section
variable {B bs : Nat} {e : TypeId} {Si : Nat → Prop} {m : List (Int × Value)} {qv : Value} {seen q : List Int} {w w' : World}
theorem QInv.mod {R : Nat → Prop} (h : QInv B bs e Si m qv seen q w) (hm : Mod R w w') (h1 : ∀ b, R b → b ≠ bs ∧ qv.ownBlock ≠ some b) : QInv B bs e Si m qv seen q w' :=
  ⟨h.bb, h.ns, hm.map h.hm (fun hr => (h1 _ hr).1 rfl), h.sn, h.own.mod hm (fun k hk hr => (h1 k hr).2 hk), h.nq⟩
theorem QInv.ext (h : QInv B bs e Si m qv seen q w) (he : Ext w w') : QInv B bs e Si m qv seen q w' := h.mod (he.mod (fun _ => False)) fun _ h => h.elim
theorem QInv.yield {S' : Nat → Prop} (h : QInv B bs e Si m qv seen q w) (hm : Mod Si w w') (hs : ∀ b, b < w.heap.size → S' b → Si b) : QInv B bs e S' m qv seen q w' :=
  ⟨h.bb, fun hb => h.ns (hs bs h.hm.lt hb), hm.map h.hm h.ns, h.sn, h.own.mod hm (fun k hk => (h.nq k hk).1), fun b hb => ⟨fun hs' => (h.nq b hb).1 (hs b (h.own.lt b hb).2 hs'), (h.nq b hb).2⟩⟩
theorem QInv.put {x : Int} (h : QInv B bs e Si m qv seen q w) (u : Upd bs w w') (hm : MRow w' bs (Value.int .i64) (mput m x (.bool true))) : QInv B bs e Si (mput m x (.bool true)) qv (seen ++ [x]) q w' :=
  ⟨h.bb, h.ns, hm, h.sn.put x, h.own.upd u (fun k hk => (h.nq k hk).2), h.nq⟩
theorem QInv.app {x : Int} {v' : Value} (h : QInv B bs e Si m qv seen q w) (hb : ∀ b, Si b → b < w.heap.size) (ho : OwnQ w' B e 1 v' (q.length + 1) (q.map (Value.int .i64) ++ [.int .i64 x])) (hg : w.grownBy w' qv.ownBlock) (hn : ∀ k, v'.ownBlock = some k → qv.ownBlock = some k ∨ w.heap.size ≤ k) :
    QInv B bs e Si m v' seen (q ++ [x]) w' := by
  have hm : Mod (fun b => qv.ownBlock = some b) w w' := Mod.of_grown hg fun k hk => hk
  refine ⟨h.bb, h.ns, hm.map h.hm (fun hk => (h.nq bs hk).2 rfl), h.sn, by simpa using ho, fun b hb' => ?_⟩
  rcases hn b hb' with h1 | h1
  · exact h.nq b h1
  · exact ⟨fun hs => by have := hb b hs; omega, fun e => by have := h.hm.lt; omega⟩
theorem QInv.pop {x : Int} {r : List Int} (h : QInv B bs e Si m qv seen (x :: r) w) : QInv B bs e Si m (dropV 1 qv 1) seen r w := by
  have h1 := h.own.drop (i := 1) (by simp)
  refine ⟨h.bb, h.ns, h.hm, h.sn, by simpa using h1, fun b hb => h.nq b ?_⟩
  obtain ⟨a, c, rfl, _⟩ := h.own.reads.isS
  simp only [dropV] at hb
  cases a with
  | none => simp [Value.ownBlock] at hb
  | some a =>
    have hadd : (a.add (1 * 1)).block = a.block := by unfold Addr.add; split <;> rfl
    by_cases hc : c = 1
    · simpa [hc, Value.ownBlock] using hb
    · simpa [hc, Value.ownBlock, hadd] using hb
theorem QInv.modPut (h : QInv B bs e Si m qv seen q w) (u : Upd bs w w') : Mod (fun b => B ≤ b ∧ ¬ Si b) w w' := u.mod ⟨h.bb, h.ns⟩
theorem QInv.modApp (h : QInv B bs e Si m qv seen q w) (hg : w.grownBy w' qv.ownBlock) : Mod (fun b => B ≤ b ∧ ¬ Si b) w w' := Mod.of_grown hg fun k hk => ⟨(h.own.lt k hk).1, (h.nq k hk).1⟩
end
end Go.XK
