/- Short words for what a printed walk says over and over: a fact at a world that only drew since. No condition. -/
import Derived.Test.YtpiaeinfneoioaaWWordsV
namespace Go.Proofs.YtpiaeinfneoioaaW.PrintWords
open Go.RowKit
theorem AM_ {p : Prop} (h : p) : Aside0 p := ⟨h⟩
theorem RL {α : Type} {d : Kd α} {e base : Nat} {ok : Nat → Prop} {v : Value} {xs : List α} {w w1 : World} (h : d.R e w base ok v xs) (hw : w1.heap = w.heap) : d.R e w1 base ok v xs := Kd.R_step h (fun k _ _ => by rw [hw])
theorem BL {n : Nat} {w W W1 : World} (h : Below n w W) (h1 : W1.os = W.os) (h2 : W1.tape = W.tape) (h3 : W1.output = W.output) (h4 : W1.heap = W.heap) : Below n w W1 := ⟨h1.trans h.os, h2.trans h.tape, h3.trans h.output, by rw [h4]; exact h.size, fun k hk => by rw [h4]; exact h.block k hk⟩
end Go.Proofs.YtpiaeinfneoioaaW.PrintWords
