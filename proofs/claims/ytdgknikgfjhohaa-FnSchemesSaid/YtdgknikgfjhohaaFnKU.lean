/- A call of a function value: the closure's number and what it captured are known. No condition. -/
import Derived.Test.YtdgknikgfjhohaaShortU
import Derived.Test.YtdgknikgfjhohaaWWordsU
import Derived.Test.YtdgknikgfjhohaaWLastU
import Derived.Test.YtdgknikgfjhohaaWMoreU
import Derived.Test.YtdgknikgfjhohaaWFootNeU
import Derived.Lib.SliceRun
namespace Go.Proofs.YtdgknikgfjhohaaW.PrintWords
open Go.RowKit Go.Proofs.YtdgknikgfjhohaaW.PrintLast
variable {P : Program} {ops : Array Oper} {Q : Exit → Act → World → Prop}
theorem goesF_ {rest : List Oper} {oi : Oper} {a : Act} {w : World} (N : Option Tmp) (hd : oi.dst = N) (hg : oi.guard = none) {f : FuncId} {fn : Func} {q : Tmp} {lb : Array Value} {as : Array Operand} {ts : Array TypeId} (hf : P.funcs[f]? = some fn) (hname : (fn.name == "runtime.NumGoroutine") = false) (hb : fn.body.isSome = true) (args : Array Value)
    (hop : oi.op = .call { callee := .value (.tmp q), args := as, argTypes := ts }) (hq : a.eval (.tmp q) = .func (.func f) #[] lb) (hargs : as.map a.eval ++ lb = args)
    (h : Calls P f args w fun e w' => ∃ v, e = .returned v ∧ wpList P ops Q rest (a.put N v) w') : wpList P ops Q (oi :: rest) a w := by
  refine wpList_plain hg fun K hK => ?_
  have he := enters_ hf hname hb args w
  have hrun : (execOp a.eval oi).run P w = .ok (.enter f args) w := by
    unfold execOp
    simp [hop, resolve, Deferred.ofValue, invoke, hq, hargs, he]
  unfold Oper.wp
  rw [hrun, Oper.upon_enter]
  refine h.mono fun e w'' hh => ?_
  obtain ⟨v, rfl, hk⟩ := hh
  subst hd
  exact hK _ _ hk

namespace Kd
variable {α : Type}
theorem FK_Q {α : Type} {d : Kd α} {e e' base : Nat} {ok : Nat → Prop} {W : World} {v : Value} {l : List α} (h : d.Q e W base ok v l) : Kd.FK (Kd.slice e' d) W ok l [v] := by
  obtain ⟨A, c, rfl, hl⟩ := Kd.Q_slice h
  exact Kd.FK_slice_mk hl (Kd.Q_F h)
end Kd
theorem foot_in {α : Type} {d : Kd α} {e n g i : Nat} {w0 w1 : World} {A : Option Addr} {xss : List (List α)} (h : ∀ W', KeepBut w0 W' g none → (Kd.slice e d).C W' A n xss) (hk : KeepBut w0 w1 g none) (r : List α) (hn : 0 < n)
    (at_ : ∀ {w : World}, (Kd.slice e d).C w A n xss → ∃ ad A0 c0, A = some ad ∧ w.cell? (ad.add i) = some (.slice A0 r.length c0) ∧ r.length ≤ c0 ∧ d.C w A0 r.length r) :
    ∃ ad A0 c0, A = some ad ∧ w1.cell? (ad.add i) = some (.slice A0 r.length c0) ∧ r.length ≤ c0 ∧ ∀ W', KeepBut w0 W' g none → d.C W' A0 r.length r := by
  obtain ⟨ad, A0, c0, e, hx, hl, _⟩ := at_ (h w1 hk)
  subst e
  have hne : ad.block ≠ g := Kd.foot_ne h hn Nat.zero_lt_one
  have hlt : ad.block < w0.heap.size := Kd.foot_lt h hn Nat.zero_lt_one
  have cell : ∀ W', KeepBut w0 W' g none → W'.cell? (ad.add i) = w0.cell? (ad.add i) := by
    intro W' hk'
    have hb : (ad.add i).block = ad.block := by first | rw [add_block] | rfl
    have hh := hk'.2 (ad.add i).block (by rw [hb]; exact hlt) (by rw [hb]; exact hne) (by simp)
    simp [World.cell?, hh]
  refine ⟨ad, A0, c0, rfl, hx, hl, fun W' hk' => ?_⟩
  obtain ⟨ad', A1, c1, e1, hx1, _, hC⟩ := at_ (h W' hk')
  cases e1
  rw [cell W' hk', ← cell w1 hk, hx] at hx1
  cases hx1
  exact hC
theorem below_of_keep {w0 w W : World} {g : Nat} (h0 : Below w0.heap.size w0 w) (h1 : Below w0.heap.size w0 W) (hk : KeepBut w W g none) (hg : w.heap.size ≤ g) : Below w.heap.size w W :=
  ⟨h1.os.trans h0.os.symm, h1.tape.trans h0.tape.symm, h1.output.trans h0.output.symm, hk.1, fun k hlt => hk.2 k hlt (by omega) (by simp)⟩
section
variable {w0 W W1 w2 : World} {g : Nat}
theorem KZ (h : Aside0 (KeepBut w0 W g none)) (e : KeepBut w0 W g none → KeepBut w0 W1 g none := by intro h; repeat (first | (with_reducible first | exact h | apply KeepBut.set_ | apply keep_drewN | apply keep_drew | apply keep_alloc | refine keep_far ?_ (Aside0.out (by assumption)) _) | exact h)) : KeepBut w0 W1 g none := e h.out
theorem KS (h : Aside0 (KeepBut w0 W g none)) (e : KeepBut w0 W g none → KeepBut w0 W1 g none := by intro h; repeat (first | (with_reducible first | exact h | apply KeepBut.set_ | apply keep_drewN | apply keep_drew | apply keep_alloc | refine keep_far ?_ (Aside0.out (by assumption)) _) | exact h)) : w0.heap.size ≤ W1.heap.size := keep_size (e h.out)
theorem KX (h : Aside0 (KeepBut w0 W g none)) (hb : Below W1.heap.size W1 w2) (e : KeepBut w0 W g none → KeepBut w0 W1 g none := by intro h; repeat (first | (with_reducible first | exact h | apply KeepBut.set_ | apply keep_drewN | apply keep_drew | apply keep_alloc | refine keep_far ?_ (Aside0.out (by assumption)) _) | exact h)) : Aside0 (KeepBut w0 w2 g none) := ⟨KeepBut.trans (e h.out) (KeepBut.of_below hb g none) (.inl rfl)⟩
theorem KY (h : Aside0 (KeepBut w0 W g none)) (hk : KeepBut W1 w2 g none) (e : KeepBut w0 W g none → KeepBut w0 W1 g none := by intro h; repeat (first | (with_reducible first | exact h | apply KeepBut.set_ | apply keep_drewN | apply keep_drew | apply keep_alloc | refine keep_far ?_ (Aside0.out (by assumption)) _) | exact h)) : Aside0 (KeepBut w0 w2 g none) := ⟨KeepBut.trans (e h.out) hk (.inl rfl)⟩
theorem BZ0 (h : Aside0 (Below w0.heap.size w0 W)) (e : Below w0.heap.size w0 W → Below w0.heap.size w0 W1 := by intro h; repeat (first | (with_reducible first | exact h | apply below_alloc | apply pw_below_drewN | apply below_drew1 | refine below_set ?_ (Aside0.out (by assumption))) | exact h)) : Below w0.heap.size w0 W1 := e h.out
theorem BG1 {g : Nat} {cs : Array Value} {t : TypeId} (h : Aside0 (W.heap[g]? = some (.cells cs t (0, 0)))) (e : W.heap[g]? = some (.cells cs t (0, 0)) → W1.heap[g]? = some (.cells cs t (0, 0)) := by intro h; (with_reducible repeat (first | refine blk_drewN ?_ _ | refine blk_drew ?_ | refine blk_alloc ?_ _ | refine blk_far ?_ (Aside0.out (by assumption)) _)); exact h) : W1.heap[g]? = some (.cells cs t (0, 0)) := e h.out
theorem KB {q : Nat} {cs : Array Value} {t : TypeId} (h : Aside0 (W.heap[q]? = some (.cells cs t (0, 0)))) (hk : KeepBut W1 w2 g none) (hn : Aside0 (q ≠ g)) (e : W.heap[q]? = some (.cells cs t (0, 0)) → W1.heap[q]? = some (.cells cs t (0, 0)) := by intro h; (with_reducible repeat (first | refine blk_drewN ?_ _ | refine blk_drew ?_ | refine blk_alloc ?_ _ | refine blk_far ?_ (Aside0.out (by assumption)) _)); exact h) : Aside0 (w2.heap[q]? = some (.cells cs t (0, 0))) := ⟨KeepBut.blk hk (e h.out) hn.out (by simp)⟩
end
theorem YH {α : Type} {y z : α} {p q : Prop} (H : p) (hy : y = z) (e : p → y = z → q := by intro H hy; first | (rw [hy]; with_reducible exact H) | (have H2_ := (Option.bind_some _ _).symm.trans H; rw [hy]; with_reducible exact H2_) | (have H2_ := (Option.bind_some _ _).symm.trans H; with_reducible exact H2_) | with_reducible exact H | (rw [hy]; exact H) | exact H) : q := e H hy
theorem ER {α : Type} {a b : α} (h : a = b := by first | rfl | (simp [errW_none, errW_some] <;> rfl) | (simp [*, errW_none, errW_some] <;> rfl)) : a = b := h
theorem CF5 {W : World} {a : Addr} {b : Nat} {i0 : Nat} {i1 : Nat} {i2 : Nat} {i3 : Nat} {i4 : Nat} {v0 : Value} {v1 : Value} {v2 : Value} {v3 : Value} {v4 : Value} {v : Option Value} (hn : a.block ≠ b) (h : W.cell? a = v) : (((((W.setCell ⟨b, i0, none⟩ v0).setCell ⟨b, i1, none⟩ v1).setCell ⟨b, i2, none⟩ v2).setCell ⟨b, i3, none⟩ v3).setCell ⟨b, i4, none⟩ v4).cell? a = v := (cell_far (p := ⟨b, i4, none⟩) hn v4).trans ((cell_far (p := ⟨b, i3, none⟩) hn v3).trans ((cell_far (p := ⟨b, i2, none⟩) hn v2).trans ((cell_far (p := ⟨b, i1, none⟩) hn v1).trans ((cell_far (p := ⟨b, i0, none⟩) hn v0).trans (h)))))
theorem CF9 {W : World} {a : Addr} {b : Nat} {i0 : Nat} {i1 : Nat} {i2 : Nat} {i3 : Nat} {i4 : Nat} {i5 : Nat} {i6 : Nat} {i7 : Nat} {i8 : Nat} {v0 : Value} {v1 : Value} {v2 : Value} {v3 : Value} {v4 : Value} {v5 : Value} {v6 : Value} {v7 : Value} {v8 : Value} {v : Option Value} (hn : a.block ≠ b) (h : W.cell? a = v) : (((((((((W.setCell ⟨b, i0, none⟩ v0).setCell ⟨b, i1, none⟩ v1).setCell ⟨b, i2, none⟩ v2).setCell ⟨b, i3, none⟩ v3).setCell ⟨b, i4, none⟩ v4).setCell ⟨b, i5, none⟩ v5).setCell ⟨b, i6, none⟩ v6).setCell ⟨b, i7, none⟩ v7).setCell ⟨b, i8, none⟩ v8).cell? a = v := (cell_far (p := ⟨b, i8, none⟩) hn v8).trans ((cell_far (p := ⟨b, i7, none⟩) hn v7).trans ((cell_far (p := ⟨b, i6, none⟩) hn v6).trans ((cell_far (p := ⟨b, i5, none⟩) hn v5).trans ((cell_far (p := ⟨b, i4, none⟩) hn v4).trans ((cell_far (p := ⟨b, i3, none⟩) hn v3).trans ((cell_far (p := ⟨b, i2, none⟩) hn v2).trans ((cell_far (p := ⟨b, i1, none⟩) hn v1).trans ((cell_far (p := ⟨b, i0, none⟩) hn v0).trans (h)))))))))
theorem RF5 {α : Type} {d : Kd α} {e base : Nat} {ok : Nat → Prop} {v : Value} {xs : List α} {W : World} {b : Nat} {v0 : Value} {v1 : Value} {v2 : Value} {v3 : Value} {v4 : Value} (h : Kd.R d e W base ok v xs) (hn : ∀ k, ok k → k ≠ b) : Kd.R d e (((((W.setCell ⟨b, 0, none⟩ v0).setCell ⟨b, 1, none⟩ v1).setCell ⟨b, 2, none⟩ v2).setCell ⟨b, 3, none⟩ v3).setCell ⟨b, 4, none⟩ v4) base ok v xs := (Kd.R_far (p := ⟨b, 4, none⟩) (Kd.R_far (p := ⟨b, 3, none⟩) (Kd.R_far (p := ⟨b, 2, none⟩) (Kd.R_far (p := ⟨b, 1, none⟩) (Kd.R_far (p := ⟨b, 0, none⟩) h hn v0) hn v1) hn v2) hn v3) hn v4)
theorem RF9 {α : Type} {d : Kd α} {e base : Nat} {ok : Nat → Prop} {v : Value} {xs : List α} {W : World} {b : Nat} {v0 : Value} {v1 : Value} {v2 : Value} {v3 : Value} {v4 : Value} {v5 : Value} {v6 : Value} {v7 : Value} {v8 : Value} (h : Kd.R d e W base ok v xs) (hn : ∀ k, ok k → k ≠ b) : Kd.R d e (((((((((W.setCell ⟨b, 0, none⟩ v0).setCell ⟨b, 1, none⟩ v1).setCell ⟨b, 2, none⟩ v2).setCell ⟨b, 3, none⟩ v3).setCell ⟨b, 4, none⟩ v4).setCell ⟨b, 5, none⟩ v5).setCell ⟨b, 6, none⟩ v6).setCell ⟨b, 7, none⟩ v7).setCell ⟨b, 8, none⟩ v8) base ok v xs := (Kd.R_far (p := ⟨b, 8, none⟩) (Kd.R_far (p := ⟨b, 7, none⟩) (Kd.R_far (p := ⟨b, 6, none⟩) (Kd.R_far (p := ⟨b, 5, none⟩) (Kd.R_far (p := ⟨b, 4, none⟩) (Kd.R_far (p := ⟨b, 3, none⟩) (Kd.R_far (p := ⟨b, 2, none⟩) (Kd.R_far (p := ⟨b, 1, none⟩) (Kd.R_far (p := ⟨b, 0, none⟩) h hn v0) hn v1) hn v2) hn v3) hn v4) hn v5) hn v6) hn v7) hn v8)
theorem VF5 {α : Type} {d : Kd α} {e base : Nat} {ok : Nat → Prop} {v : Value} {xs : List α} {W : World} {b : Nat} {v0 : Value} {v1 : Value} {v2 : Value} {v3 : Value} {v4 : Value} (h : Kd.V d e W base ok v xs) (hn : ∀ k, ok k → k ≠ b) : Kd.V d e (((((W.setCell ⟨b, 0, none⟩ v0).setCell ⟨b, 1, none⟩ v1).setCell ⟨b, 2, none⟩ v2).setCell ⟨b, 3, none⟩ v3).setCell ⟨b, 4, none⟩ v4) base ok v xs := (Kd.V_far (p := ⟨b, 4, none⟩) (Kd.V_far (p := ⟨b, 3, none⟩) (Kd.V_far (p := ⟨b, 2, none⟩) (Kd.V_far (p := ⟨b, 1, none⟩) (Kd.V_far (p := ⟨b, 0, none⟩) h hn v0) hn v1) hn v2) hn v3) hn v4)
theorem VF9 {α : Type} {d : Kd α} {e base : Nat} {ok : Nat → Prop} {v : Value} {xs : List α} {W : World} {b : Nat} {v0 : Value} {v1 : Value} {v2 : Value} {v3 : Value} {v4 : Value} {v5 : Value} {v6 : Value} {v7 : Value} {v8 : Value} (h : Kd.V d e W base ok v xs) (hn : ∀ k, ok k → k ≠ b) : Kd.V d e (((((((((W.setCell ⟨b, 0, none⟩ v0).setCell ⟨b, 1, none⟩ v1).setCell ⟨b, 2, none⟩ v2).setCell ⟨b, 3, none⟩ v3).setCell ⟨b, 4, none⟩ v4).setCell ⟨b, 5, none⟩ v5).setCell ⟨b, 6, none⟩ v6).setCell ⟨b, 7, none⟩ v7).setCell ⟨b, 8, none⟩ v8) base ok v xs := (Kd.V_far (p := ⟨b, 8, none⟩) (Kd.V_far (p := ⟨b, 7, none⟩) (Kd.V_far (p := ⟨b, 6, none⟩) (Kd.V_far (p := ⟨b, 5, none⟩) (Kd.V_far (p := ⟨b, 4, none⟩) (Kd.V_far (p := ⟨b, 3, none⟩) (Kd.V_far (p := ⟨b, 2, none⟩) (Kd.V_far (p := ⟨b, 1, none⟩) (Kd.V_far (p := ⟨b, 0, none⟩) h hn v0) hn v1) hn v2) hn v3) hn v4) hn v5) hn v6) hn v7) hn v8)
section
variable {w0 W W1 w2 : World} {g : Nat}
theorem GK {gb : Nat} (h : Aside0 (KeepBut w0 W g none)) (hg : gb = W1.heap.size) (e : KeepBut w0 W g none → KeepBut w0 W1 g none := by intro h; repeat (first | (with_reducible first | exact h | apply KeepBut.set_ | apply keep_drewN | apply keep_drew | apply keep_alloc | refine keep_far ?_ (Aside0.out (by assumption)) _) | exact h)) : Aside0 (w0.heap.size ≤ gb) := ⟨by rw [hg]; exact keep_size (e h.out)⟩
theorem GE1 {n gb : Nat} (hn : Aside0 (n ≤ w0.heap.size)) (h : Aside0 (KeepBut w0 W g none)) (hg : gb = W1.heap.size) (e : KeepBut w0 W g none → KeepBut w0 W1 g none := by intro h; repeat (first | (with_reducible first | exact h | apply KeepBut.set_ | apply keep_drewN | apply keep_drew | apply keep_alloc | refine keep_far ?_ (Aside0.out (by assumption)) _) | exact h)) : Aside0 (n ≤ gb) := ⟨Nat.le_trans hn.out (by rw [hg]; exact keep_size (e h.out))⟩
end
theorem DW {α : Type} {x : α} {w : World} {m n : Nat} : x = x ∧ ∃ k, (w.drewN m).drewN n = w.drewN k := ⟨rfl, _, World.drewN_drewN _ _ _⟩
theorem DX {α : Type} {x : α} {w : World} {a b m n : Nat} (h : ((w.drewN a).drewN b).drewN m = w.drewN n := by exact Eq.trans (World.drewN_drewN _ _ _) (congrArg (World.drewN _) (Nat.add_assoc _ _ _))) : x = x ∧ ∃ k, ((w.drewN a).drewN b).drewN m = w.drewN k := ⟨rfl, _, h⟩
theorem NR {P : Program} {ops : Array Oper} {Q : Exit → Act → World → Prop} {md : Region.Mode} {S : World → Prop} {ds : List Nat} {fuel : Nat} {l : Array Bool} {a a' : Act} {w : World} (h : wpAnyLast P md ops Q S ds fuel l a' w) (ha : a = a' := by simp only [putAll, Act.put, List.setIfInBounds_toArray, List.set_cons_zero, List.set_cons_succ]) : wpAnyLast P md ops Q S ds fuel l a w := norm_ ha h
theorem RB {α : Type} {d : Kd α} {e base : Nat} {ok : Nat → Prop} {v : Value} {xs : List α} {w w1 w2 : World} (h : Aside0 (d.R e w base ok v xs)) (hb : Below w1.heap.size w1 w2) (f : d.R e w base ok v xs → d.R e w1 base ok v xs := by intro h; (with_reducible repeat (first | apply Kd.R_alloc | apply Kd.R_drewN | apply Kd.R_drew)); exact h) : Aside0 (d.R e w2 base ok v xs) := ⟨Kd.R_below (f h.out) hb⟩
theorem BP5 {W : World} {b : Nat} {t : TypeId} {v0 a0 : Value} {v1 a1 : Value} {v2 a2 : Value} {v3 a3 : Value} {v4 a4 : Value} (h : W.heap[b]? = some (.cells #[a0, a1, a2, a3, a4] t (0, 0))) : (((((W.setCell ⟨b, 0, none⟩ v0).setCell ⟨b, 1, none⟩ v1).setCell ⟨b, 2, none⟩ v2).setCell ⟨b, 3, none⟩ v3).setCell ⟨b, 4, none⟩ v4).heap[b]? = some (.cells #[v0, v1, v2, v3, v4] t (0, 0)) := by
  refine blk_put (cs := #[v0, v1, v2, v3, a4]) ?_ 4 _ rfl
  refine blk_put (cs := #[v0, v1, v2, a3, a4]) ?_ 3 _ rfl
  refine blk_put (cs := #[v0, v1, a2, a3, a4]) ?_ 2 _ rfl
  refine blk_put (cs := #[v0, a1, a2, a3, a4]) ?_ 1 _ rfl
  refine blk_put (cs := #[a0, a1, a2, a3, a4]) ?_ 0 _ rfl
  exact h
theorem BP9 {W : World} {b : Nat} {t : TypeId} {v0 a0 : Value} {v1 a1 : Value} {v2 a2 : Value} {v3 a3 : Value} {v4 a4 : Value} {v5 a5 : Value} {v6 a6 : Value} {v7 a7 : Value} {v8 a8 : Value} (h : W.heap[b]? = some (.cells #[a0, a1, a2, a3, a4, a5, a6, a7, a8] t (0, 0))) : (((((((((W.setCell ⟨b, 0, none⟩ v0).setCell ⟨b, 1, none⟩ v1).setCell ⟨b, 2, none⟩ v2).setCell ⟨b, 3, none⟩ v3).setCell ⟨b, 4, none⟩ v4).setCell ⟨b, 5, none⟩ v5).setCell ⟨b, 6, none⟩ v6).setCell ⟨b, 7, none⟩ v7).setCell ⟨b, 8, none⟩ v8).heap[b]? = some (.cells #[v0, v1, v2, v3, v4, v5, v6, v7, v8] t (0, 0)) := by
  refine blk_put (cs := #[v0, v1, v2, v3, v4, v5, v6, v7, a8]) ?_ 8 _ rfl
  refine blk_put (cs := #[v0, v1, v2, v3, v4, v5, v6, a7, a8]) ?_ 7 _ rfl
  refine blk_put (cs := #[v0, v1, v2, v3, v4, v5, a6, a7, a8]) ?_ 6 _ rfl
  refine blk_put (cs := #[v0, v1, v2, v3, v4, a5, a6, a7, a8]) ?_ 5 _ rfl
  refine blk_put (cs := #[v0, v1, v2, v3, a4, a5, a6, a7, a8]) ?_ 4 _ rfl
  refine blk_put (cs := #[v0, v1, v2, a3, a4, a5, a6, a7, a8]) ?_ 3 _ rfl
  refine blk_put (cs := #[v0, v1, a2, a3, a4, a5, a6, a7, a8]) ?_ 2 _ rfl
  refine blk_put (cs := #[v0, a1, a2, a3, a4, a5, a6, a7, a8]) ?_ 1 _ rfl
  refine blk_put (cs := #[a0, a1, a2, a3, a4, a5, a6, a7, a8]) ?_ 0 _ rfl
  exact h
theorem CRR {α : Type} {d : Kd α} {e base n c : Nat} {ok : Nat → Prop} {A : Option Addr} {xs : List α} {w W : World} (h : Aside0 (Kd.R d e w base ok (.slice A n c) xs)) (h1 : W.os = w.os := by with_unfolding_all rfl) (h2 : W.tape = w.tape := by with_unfolding_all rfl) (h3 : W.output = w.output := by with_unfolding_all rfl) (h4 : W.heap = w.heap := by with_unfolding_all rfl) : d.C W A xs.length xs := Kd.C_below (Kd.R_reads' h.out).2.2 (BL (Below.refl _ _) h1 h2 h3 h4)
theorem CRV {α : Type} {d : Kd α} {e base n c : Nat} {ok : Nat → Prop} {A : Option Addr} {xs : List α} {w W : World} (h : Aside0 (Kd.V d e w base ok (.slice A n c) xs)) (h1 : W.os = w.os := by with_unfolding_all rfl) (h2 : W.tape = w.tape := by with_unfolding_all rfl) (h3 : W.output = w.output := by with_unfolding_all rfl) (h4 : W.heap = w.heap := by with_unfolding_all rfl) : d.C W A xs.length xs := Kd.C_below (Kd.V_reads' h.out).2.2 (BL (Below.refl _ _) h1 h2 h3 h4)
theorem RF1 {α : Type} {d : Kd α} {e base j : Nat} {ok : Nat → Prop} {v u : Value} {xs : List α} {W : World} {b : Nat} (h : Kd.R d e W base ok v xs) (hn : ∀ k, ok k → k ≠ b) : Kd.R d e (W.setCell ⟨b, j, none⟩ u) base ok v xs := Kd.R_far (p := ⟨b, j, none⟩) h hn u
theorem SF1 {α : Type} {d : Kd α} {e base j : Nat} {ok : Nat → Prop} {v u : Value} {xs : List α} {W : World} {b : Nat} (h : Kd.S d e W base ok v xs) (hn : ∀ k, ok k → k ≠ b) : Kd.S d e (W.setCell ⟨b, j, none⟩ u) base ok v xs := Kd.S_far (p := ⟨b, j, none⟩) h hn u
theorem VF1 {α : Type} {d : Kd α} {e base j : Nat} {ok : Nat → Prop} {v u : Value} {xs : List α} {W : World} {b : Nat} (h : Kd.V d e W base ok v xs) (hn : ∀ k, ok k → k ≠ b) : Kd.V d e (W.setCell ⟨b, j, none⟩ u) base ok v xs := Kd.V_far (p := ⟨b, j, none⟩) h hn u
theorem b5 {W : World} {b : Nat} {t : TypeId} {v0 v1 v2 v3 v4 : Value} (h : W.heap[b]? = some (.cells #[v0, v1, v2, v3, v4] t (0, 0))) : W.cell? ⟨b, 0, none⟩ = some v0 ∧ W.cell? ⟨b, 1, none⟩ = some v1 ∧ W.cell? ⟨b, 2, none⟩ = some v2 ∧ W.cell? ⟨b, 3, none⟩ = some v3 ∧ W.cell? ⟨b, 4, none⟩ = some v4 := ⟨blk_cell h 0, blk_cell h 1, blk_cell h 2, blk_cell h 3, blk_cell h 4⟩
theorem b9 {W : World} {b : Nat} {t : TypeId} {v0 v1 v2 v3 v4 v5 v6 v7 v8 : Value} (h : W.heap[b]? = some (.cells #[v0, v1, v2, v3, v4, v5, v6, v7, v8] t (0, 0))) : W.cell? ⟨b, 0, none⟩ = some v0 ∧ W.cell? ⟨b, 1, none⟩ = some v1 ∧ W.cell? ⟨b, 2, none⟩ = some v2 ∧ W.cell? ⟨b, 3, none⟩ = some v3 ∧ W.cell? ⟨b, 4, none⟩ = some v4 ∧ W.cell? ⟨b, 5, none⟩ = some v5 ∧ W.cell? ⟨b, 6, none⟩ = some v6 ∧ W.cell? ⟨b, 7, none⟩ = some v7 ∧ W.cell? ⟨b, 8, none⟩ = some v8 := ⟨blk_cell h 0, blk_cell h 1, blk_cell h 2, blk_cell h 3, blk_cell h 4, blk_cell h 5, blk_cell h 6, blk_cell h 7, blk_cell h 8⟩
theorem OY {α β : Type} {z : α} {f : α → Option β} {r : β} (h : (some z).bind f = some r) : ∃ y, y = z ∧ f y = some r := ⟨z, rfl, h⟩
theorem ET {p : Prop} (h : p) : p = True := eq_true h
theorem DE {p : Prop} [Decidable p] (h : p) : decide p = true := decide_eq_true h
theorem SI {α : Type} {a b : α} (h : some a = some b) : a = b := Option.some.inj h
end Go.Proofs.YtdgknikgfjhohaaW.PrintWords
