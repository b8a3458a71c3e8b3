/- Short words for what a printed walk says over and over: a fact at a world that only drew since. No condition. -/
import Derived.Test.YtpiaeinfneoioaaWWordsT
import Derived.Test.YtpiaeinfneoioaaWApartT
namespace Go.Proofs.YtpiaeinfneoioaaW.PrintWords
open Go.RowKit
set_option linter.unusedVariables false
theorem AM_ {p : Prop} (h : p) : Aside0 p := ⟨h⟩
theorem RL {α : Type} {d : Kd α} {e base : Nat} {ok : Nat → Prop} {v : Value} {xs : List α} {w w1 : World} (h : d.R e w base ok v xs) (hw : w1.heap = w.heap) : d.R e w1 base ok v xs := Kd.R_step h (fun k _ _ => by rw [hw])
theorem SL {α : Type} {d : Kd α} {e base : Nat} {ok : Nat → Prop} {v : Value} {xs : List α} {w w1 : World} (h : Kd.S d e w base ok v xs) (hw : w1.heap = w.heap) : Kd.S d e w1 base ok v xs := Kd.S_step h (fun k _ _ => by rw [hw])
theorem BL {n : Nat} {w W W1 : World} (h : Below n w W) (h1 : W1.os = W.os) (h2 : W1.tape = W.tape) (h3 : W1.output = W.output) (h4 : W1.heap = W.heap) : Below n w W1 := ⟨h1.trans h.os, h2.trans h.tape, h3.trans h.output, by rw [h4]; exact h.size, fun k hk => by rw [h4]; exact h.block k hk⟩
theorem BC {w W : World} {a : Addr} {v : Value} (h : Below w.heap.size w W) (hx : w.cell? a = some v) : W.cell? a = some v := (h.cell (World.block_lt_of_cell? w _ hx)).trans hx
theorem BD {w W W1 : World} {a : Addr} {v : Value} (h : Below w.heap.size w W) (hx : w.cell? a = some v) (e : W1.heap = W.heap := by rfl) : W1.cell? a = some v := by
  have h1 := BC h hx
  unfold World.cell? at h1 ⊢
  rw [e]; exact h1
def bl : Nat → Nat → List Bool
  | _, 0 => []
  | k, n + 1 => (k % 2 == 1) :: bl (k / 2) n
abbrev bs (k n : Nat) : Array Bool := (bl k n).toArray
theorem pA (a : Act) (t : Tmp) (v : Value) : a.put (some t) v = { a with tmps := a.tmps.setIfInBounds t v } := rfl
theorem pS {α : Type} (l : List α) (i : Nat) (a : α) : l.toArray.setIfInBounds i a = (l.set i a).toArray := List.setIfInBounds_toArray l i a
theorem pZ {α : Type} {a b : α} {as : List α} : (a :: as).set 0 b = b :: as := rfl
theorem pK {α : Type} {a b : α} {n : Nat} {as : List α} : (a :: as).set (n + 1) b = a :: as.set n b := rfl
end Go.Proofs.YtpiaeinfneoioaaW.PrintWords
