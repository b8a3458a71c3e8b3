/- Short words for what a printed walk says over and over: a fact at a world that only drew since. No condition. -/
import Derived.Test.YtgpmfkmdchcagaaDoorWWordsV
import Derived.Test.YtgpmfkmdchcagaaDoorWApartV
import Derived.Test.YtgpmfkmdchcagaaDoorWLastV
import Derived.Test.YtgpmfkmdchcagaaDoorWTabV
namespace Go.Proofs.YtgpmfkmdchcagaaDoorW.PrintWords
open Go.RowKit Go.Proofs.YtgpmfkmdchcagaaDoorW.PrintLast
set_option linter.unusedVariables false
theorem AM_ {p : Prop} (h : p) : Aside0 p := ⟨h⟩
theorem BL {n : Nat} {w W W1 : World} (h : Below n w W) (h1 : W1.os = W.os) (h2 : W1.tape = W.tape) (h3 : W1.output = W.output) (h4 : W1.heap = W.heap) : Below n w W1 := ⟨h1.trans h.os, h2.trans h.tape, h3.trans h.output, by rw [h4]; exact h.size, fun k hk => by rw [h4]; exact h.block k hk⟩
theorem BC {w W : World} {a : Addr} {v : Value} (h : Below w.heap.size w W) (hx : w.cell? a = some v) : W.cell? a = some v := (h.cell (World.block_lt_of_cell? w _ hx)).trans hx
theorem BD {w W W1 : World} {a : Addr} {v : Value} (h : Below w.heap.size w W) (hx : w.cell? a = some v) (e : W1.heap = W.heap := by rfl) : W1.cell? a = some v := by
  have h1 := BC h hx
  unfold World.cell? at h1 ⊢
  rw [e]; exact h1
def bl : Nat → Nat → List Bool
  | _, 0 => []
  | k, n + 1 => (k % 2 == 1) :: bl (k / 2) n
abbrev bs (k n : Nat) : Array Bool := (bl k n).toArray
theorem pA (a : Act) (t : Tmp) (v : Value) : a.put (some t) v = { a with tmps := a.tmps.setIfInBounds t v } := rfl
theorem pS {α : Type} (l : List α) (i : Nat) (a : α) : l.toArray.setIfInBounds i a = (l.set i a).toArray := List.setIfInBounds_toArray l i a
theorem pZ {α : Type} {a b : α} {as : List α} : (a :: as).set 0 b = b :: as := rfl
theorem pK {α : Type} {a b : α} {n : Nat} {as : List α} : (a :: as).set (n + 1) b = a :: as.set n b := rfl
/-! What a tactic finds by itself stands as a default. -/
theorem BT {n : Nat} {w W W1 : World} (h : Below n w W) (e : Below n w W → Below n w W1 := by intro h; repeat (first | (with_reducible first | exact h | apply below_alloc | apply pw_below_drewN | apply below_drew1 | refine below_set ?_ (Aside0.out (by assumption))) | exact h)) : Below n w W1 := e h
theorem BB {w w1 W : World} {g : Nat} {o : Obj} (h : w.heap[g]? = some o) (hb : Below w1.heap.size w1 W) (e : w.heap[g]? = some o → w1.heap[g]? = some o := by intro h; (with_reducible repeat (first | refine blk_drewN ?_ _ | refine blk_drew ?_ | refine blk_alloc ?_ _)); exact h) : W.heap[g]? = some o := blk_below (e h) hb
theorem BH {w w1 : World} {g : Nat} {o : Obj} (h : w.heap[g]? = some o) (e : w.heap[g]? = some o → w1.heap[g]? = some o := by intro h; (with_reducible repeat (first | refine blk_drewN ?_ _ | refine blk_drew ?_ | refine blk_alloc ?_ _)); exact h) : w1.heap[g]? = some o := e h
theorem BG {w w1 : World} {g g' : Nat} {t : TypeId} {cs : Array Value} (h : w.heap[g]? = some (.cells cs t (0, 0))) (hn : g ≠ g') (e : g ≠ g' → w.heap[g]? = some (.cells cs t (0, 0)) → w1.heap[g]? = some (.cells cs t (0, 0)) := by intro hn h; (with_reducible repeat (first | refine blk_drewN ?_ _ | refine blk_drew ?_ | refine blk_alloc ?_ _ | refine blk_far ?_ hn _)); exact h) : w1.heap[g]? = some (.cells cs t (0, 0)) := e hn h
theorem BF {w w1 W : World} {g g' : Nat} {t : TypeId} {cs : Array Value} (h : w.heap[g]? = some (.cells cs t (0, 0))) (hn : g ≠ g') (hb : Below w1.heap.size w1 W) (e : g ≠ g' → w.heap[g]? = some (.cells cs t (0, 0)) → w1.heap[g]? = some (.cells cs t (0, 0)) := by intro hn h; (with_reducible repeat (first | refine blk_drewN ?_ _ | refine blk_drew ?_ | refine blk_alloc ?_ _ | refine blk_far ?_ hn _)); exact h) : W.heap[g]? = some (.cells cs t (0, 0)) := blk_below (e hn h) hb
theorem BQ {w w1 : World} {g : Nat} {t : TypeId} {cs cs' : Array Value} (h : w.heap[g]? = some (.cells cs t (0, 0))) (e : w.heap[g]? = some (.cells cs t (0, 0)) → w1.heap[g]? = some (.cells cs' t (0, 0)) := by intro h; (with_reducible repeat (first | refine blk_drewN ?_ _ | refine blk_drew ?_ | refine blk_alloc ?_ _ | apply blk_put)); exact h; all_goals (first | (simp only [pS, pZ, pK]; done) | (simp only [pS, pZ, pK]; rfl))) : w1.heap[g]? = some (.cells cs' t (0, 0)) := e h
theorem BP {w w1 W : World} {g : Nat} {t : TypeId} {cs : Array Value} (cs' : Array Value) (h : w.heap[g]? = some (.cells cs t (0, 0))) (hb : Below w1.heap.size w1 W) (e : w.heap[g]? = some (.cells cs t (0, 0)) → w1.heap[g]? = some (.cells cs' t (0, 0)) := by intro h; (with_reducible repeat (first | refine blk_drewN ?_ _ | refine blk_drew ?_ | refine blk_alloc ?_ _ | apply blk_put)); exact h; all_goals (first | (simp only [pS, pZ, pK]; done) | (simp only [pS, pZ, pK]; rfl))) : W.heap[g]? = some (.cells cs' t (0, 0)) := blk_below (e h) hb
theorem NL {w w1 : World} {g gb : Nat} {o : Obj} (h : w.heap[g]? = some o) (hg : gb = w1.heap.size) (e : w.heap[g]? = some o → w1.heap[g]? = some o := by intro h; (with_reducible repeat (first | refine blk_drewN ?_ _ | refine blk_drew ?_ | refine blk_alloc ?_ _)); exact h) : g ≠ gb := by rw [hg]; exact Nat.ne_of_lt (blk_lt (e h))
theorem NG {w w1 : World} {g gb : Nat} {o : Obj} (h : w.heap[g]? = some o) (hg : gb = w1.heap.size) (e : w.heap[g]? = some o → w1.heap[g]? = some o := by intro h; (with_reducible repeat (first | refine blk_drewN ?_ _ | refine blk_drew ?_ | refine blk_alloc ?_ _)); exact h) : gb ≠ g := by rw [hg]; exact Nat.ne_of_gt (blk_lt (e h))
theorem GS {w W W1 : World} {gb : Nat} (h : Below w.heap.size w W) (hg : gb = W1.heap.size) (e : Below w.heap.size w W → Below w.heap.size w W1 := by intro h; repeat (first | (with_reducible first | exact h | apply below_alloc | apply pw_below_drewN | apply below_drew1 | refine below_set ?_ (Aside0.out (by assumption))) | exact h)) : w.heap.size ≤ gb := by rw [hg]; exact below_size (e h)
theorem RT {α : Type} {d : Kd α} {e base : Nat} {ok : Nat → Prop} {v : Value} {xs : List α} {w w1 : World} (h : d.R e w base ok v xs) (f : d.R e w base ok v xs → d.R e w1 base ok v xs := by intro h; (with_reducible repeat (first | apply Kd.R_alloc | apply Kd.R_drewN | apply Kd.R_drew)); exact h) : d.R e w1 base ok v xs := f h
theorem DT {p : Prop} [Decidable p] (h : decide p = true := by first | (with_reducible assumption) | assumption) : p := of_decide_eq_true h
theorem QT {p q : Prop} (b : q) (a : p := by first | rfl | (simp [errW_none, errW_some] <;> rfl) | (simp [*, errW_none, errW_some] <;> rfl)) : p ∧ q := ⟨a, b⟩
theorem bc {w : World} {g : Nat} {t : TypeId} {cs : Array Value} (h : w.heap[g]? = some (.cells cs t (0, 0))) (j : Nat) {v : Value} (e : cs[j]? = some v := by rfl) : w.cell? ⟨g, j, none⟩ = some v := (blk_cell h j).trans e
theorem AH (W : World) (o : Obj) (k : Nat) (h : k < W.heap.size) : (W.alloc o).heap[k]? = W.heap[k]? := (below_alloc (Below.refl _ _) o).block k h
theorem DH (W : World) (m k : Nat) : (W.drewN m).heap[k]? = W.heap[k]? := rfl
theorem DD (W : World) (k : Nat) : W.drew.heap[k]? = W.heap[k]? := rfl
theorem RF {α : Type} {d : Kd α} {e base : Nat} {ok : Nat → Prop} {v : Value} {xs : List α} {w w1 : World} {g t : Nat} {cells : Array Value} (h : d.R e w base ok v xs) (hb : w.heap[g]? = some (.cells cells t (0, 0))) (ht : ∀ q, q ∈ e :: d.E → q ≠ t := by decide) (hw : ∀ k, k ≠ g → k < w.heap.size → w1.heap[k]? = w.heap[k]? := by intro k hk hl; (repeat (first | (with_reducible refine (Below.heap_setCell _ _ _ k hk).trans ?_) | (with_reducible refine (AH _ _ k (by first | exact hl | simpa [World.setCell] using hl)).trans ?_) | (with_reducible refine (DH _ _ k).trans ?_) | (with_reducible refine (DD _ k).trans ?_))); exact rfl) : d.R e w1 base ok v xs := Kd.R_mono (Kd.R_step (Kd.R_types h hb ht) (fun k hk hl => hw k hk.2 hl)) (fun _ hk => hk.1)
theorem bk6 {w : World} {g : Nat} {t : TypeId} {c0 c1 c2 c3 c4 c5 : Value} (h : w.heap[g]? = some (.cells #[c0, c1, c2, c3, c4, c5] t (0, 0))) : w.cell? ⟨g, 0, none⟩ = some c0 ∧ w.cell? ⟨g, 1, none⟩ = some c1 ∧ w.cell? ⟨g, 2, none⟩ = some c2 ∧ w.cell? ⟨g, 3, none⟩ = some c3 ∧ w.cell? ⟨g, 4, none⟩ = some c4 ∧ w.cell? ⟨g, 5, none⟩ = some c5 ∧ w.frozen? ⟨g, 0, none⟩ = false ∧ w.frozen? ⟨g, 1, none⟩ = false ∧ w.frozen? ⟨g, 2, none⟩ = false ∧ w.frozen? ⟨g, 3, none⟩ = false ∧ w.frozen? ⟨g, 4, none⟩ = false ∧ w.frozen? ⟨g, 5, none⟩ = false := ⟨(blk_cell h 0).trans rfl, (blk_cell h 1).trans rfl, (blk_cell h 2).trans rfl, (blk_cell h 3).trans rfl, (blk_cell h 4).trans rfl, (blk_cell h 5).trans rfl, blk_frozen h 0, blk_frozen h 1, blk_frozen h 2, blk_frozen h 3, blk_frozen h 4, blk_frozen h 5⟩
section
variable {P : Program} {ops : Array Oper} {Q : Exit → Act → World → Prop} {md : Region.Mode} {S : World → Prop} {ds : List Nat} {T : Bool × List (List Nat × List Nat)} {B : List Nat}
theorem pu {i : Nat} {N : Option Tmp} {oi : Oper} {v : Value} {fuel : Nat} {l : Array Bool} {a : Act} {w : World} (l' : Array Bool) (hi : ops[i]? = some oi) (hN : oi.dst = N) (HT : Aside0 (rtab md ops = T)) (hy : ∀ w, (execOp a.eval oi).run P w = .ok (.value v) w) {a' : Act} (ha : a.put N v = a') (h : wpAnyLast P md ops Q S ds fuel l' a' w)
    (hk : anyT T l.toList l'.toList i = true := by kernel_rfl) (hw : Region.wanted oi (yielded ops a.tmps) = true := by rfl) (hQ : ∀ c a w, Q (.panic c) (a.put oi.dst v) w → Q (.panic c) a w := by exact fun _ _ _ h => h) : wpAnyLast P md ops Q S ds (fuel + 1) l a w := pure_ l' hi hN (any_of HT.out hk) hQ (Or.inl ⟨hw, hy⟩) ha h
theorem tk {i : Nat} {N : Option Tmp} {oi : Oper} {v : Value} {fuel : Nat} {l : Array Bool} {a : Act} {w : World} (l' : Array Bool) (hi : ops[i]? = some oi) (hN : oi.dst = N) (HT : Aside0 (rtab md ops = T)) (HW : Aside0 (waitsOk T.2 B = true)) (hy : ∀ w, S w → (execOp a.eval oi).run P w = .ok (.value v) w) (hS : S w) {a' : Act} (ha : a.put N v = a') (h : wpAnyLast P md ops Q S ds fuel l' a' w)
    (hk : takeW T B ds l.toList l'.toList i = true := by kernel_rfl) (hw : Region.wanted oi (yielded ops a.tmps) = true := by rfl) (hQ : ∀ c a w, Q (.panic c) (a.put oi.dst v) w → Q (.panic c) a w := by exact fun _ _ _ h => h) : wpAnyLast P md ops Q S ds (fuel + 1) l a w := take_ l' hi hN (take_ofW HT.out HW.out hk) hQ (Or.inl ⟨hw, hy⟩) hS ha h
end
end Go.Proofs.YtgpmfkmdchcagaaDoorW.PrintWords
