/- The plain statement of FnExactHasEdge: the two searches keep step, so they answer alike. Condition: the list's length is at most maxLen. -/
import Derived.Test.YtfjhhmgbmfjloaaGoodFnExactHasEdge
import Derived.Test.YtfjhhmgbmfjloaaPlain
namespace Go.Proofs.Ytfjhhmgbmfjloaa.Pure
open Go.RowKit Go.Proofs.Ytfjhhmgbmfjloaa.PFnExactHasEdge Go.Proofs.YtfjhhmgbmfjloaaW.PrintWords Go.Proofs.YtfjhhmgbmfjloaaW.PrintLast Go.Proofs.Ytfjhhmgbmfjloaa.OpenK Go.Proofs.Ytfjhhmgbmfjloaa.Plain
set_option linter.unusedVariables false
set_option linter.unusedSimpArgs false

theorem sz_EdgeS (l : List S103) (a : Int) (h0 : 0 ≤ a) (h1 : a ≤ 1048576) (hl : l.length ≤ 9223372036854775807) : laws_szEdgeS.f l a = some (if a < l.length then -1 else a - l.length) := by
  unfold laws_szEdgeS.f
  rw [wrap_in (by omega) (by omega)]
  by_cases h : a < l.length
  · rw [if_pos (by omega), if_pos h]
  · rw [if_neg (by omega), if_neg h]

def cvEdge (x : S103) : S101 := ⟨x.f0, x.f1, x.f2, x.f3⟩
theorem ev_toEdgeS (l : List S103) (hl : l.length ≤ 1048576) : Ev (fun k => laws_toEdgeS.f k l) (l.map cvEdge) := by
  have h : Ev (fun k => laws_toEdgeS.l0 k l (List.replicate l.length z101) ((0 : Nat) : Int)) (l.map cvEdge) := by
    refine ev_up (σ := List S101) (fun ys i k => laws_toEdgeS.l0 k l ys (i : Int)) l.length (fun ys i => Filled (l.map cvEdge) ys i) (fun _ _ => l.map cvEdge) ?_ ?_ (List.replicate l.length z101) 0 (Nat.zero_le _) (Filled.start _ _ (by simp))
    · intro ys i hi hI ih
      apply Ev.succ
      have h1 : (i : Int) < (l.length : Int) := by omega
      have h2 : (i : Int) < (ys.length : Int) := by have := hI.1; simp at this; omega
      simp only [laws_toEdgeS.l0, laws_toEdge.f, Option.bind_some, h1, h2, Int.natCast_nonneg, if_true, Int.toNat_natCast, wrap_up hi (by omega)]
      exact ih _ (hI.step (by simpa using hi) (by simp [cvEdge, rd_T103, hi]))
    · intro ys hI
      apply Ev.succ
      simp only [laws_toEdgeS.l0, Int.lt_irrefl, if_false]
      exact Ev.some (Filled.done (by simpa using hI))
  unfold laws_toEdgeS.f
  have h3 : ((l.length : Int) : Int).toNat ≤ 8796093022208 := by omega
  simp only [Int.natCast_nonneg, if_true, h3]
  simpa using h

theorem ev_eqEdgeS (l : List S101) (hl : l.length ≤ 9223372036854775807) : Ev (fun k => laws_eqEdgeS.f k l l) true := by
  have h : Ev (fun k => laws_eqEdgeS.l0 k l l ((0 : Nat) : Int)) true := by
    refine ev_up (σ := Unit) (fun _ i k => laws_eqEdgeS.l0 k l l (i : Int)) l.length (fun _ _ => True) (fun _ _ => true) ?_ ?_ () 0 (Nat.zero_le _) trivial
    · intro ys i hi hI ih
      apply Ev.succ
      have h1 : (i : Int) < (l.length : Int) := by omega
      simp only [laws_eqEdgeS.l0, laws_eqEdge.f, Option.bind_some, h1, Int.natCast_nonneg, if_true, wrap_up hi hl]
      exact ih () trivial
    · intro ys hI
      apply Ev.succ
      simp only [laws_eqEdgeS.l0, Int.lt_irrefl, if_false]
      exact Ev.now _
  unfold laws_eqEdgeS.f
  simp only [if_true]
  exact h


theorem both_HasEdge (l : List S101) (a b : Int) (hl : l.length ≤ 1048576) : ∃ r, Ev (fun k => spec_HasEdge.f k l a b) r ∧ Ev (fun k => impl_HasEdge.f k l a b) r ∧ True := by
  have h : ∃ r q, Ev (fun k => spec_HasEdge.l0 k l a b ((0 : Nat) : Int)) r ∧ Ev (fun k => impl_Edge_87.l0 k l (l.length : Int) ((0 : Nat) : Int) a b) q ∧ r = decide (q ≥ 0) := by
    refine ev_two (σ := Unit) (τ := Unit) (fun _ i k => spec_HasEdge.l0 k l a b (i : Int)) (fun _ i k => impl_Edge_87.l0 k l (l.length : Int) (i : Int) a b) l.length (fun _ _ _ => True) (fun r q => r = decide (q ≥ 0)) ?_ ?_ () () 0 (Nat.zero_le _) trivial
    · intro _ _ i hi _ ih
      have h1 : (i : Int) < (l.length : Int) := by omega
      have e0 := wrap_up hi (by omega)
      obtain ⟨r, q, hs, ht, hR⟩ := ih () () trivial
      by_cases c : (rd_T101 l i).f0 = a
      · by_cases d : (rd_T101 l i).f1 = b
        · refine ⟨true, (i : Int), Ev.succ ?_, Ev.succ ?_, by simp⟩ <;> (simp only [spec_HasEdge.l0, impl_Edge_87.l0, impl_HasEdge_1.f, h1, c, d, beq_self_eq_true, Int.natCast_nonneg, if_true, Option.bind_some]; exact Ev.now _)
        · have db : ((rd_T101 l i).f1 == b) = false := by simpa using d
          refine ⟨r, q, Ev.succ ?_, Ev.succ ?_, hR⟩ <;> (simp only [spec_HasEdge.l0, impl_Edge_87.l0, impl_HasEdge_1.f, h1, c, d, db, e0, Int.natCast_nonneg, if_true, if_false, Option.bind_some, Bool.false_eq_true]; assumption)
      · refine ⟨r, q, Ev.succ ?_, Ev.succ ?_, hR⟩ <;> (simp only [spec_HasEdge.l0, impl_Edge_87.l0, impl_HasEdge_1.f, h1, c, e0, Int.natCast_nonneg, if_true, if_false, Option.bind_some, Bool.false_eq_true]; assumption)
    · intro _ _ _
      refine ⟨false, -1, Ev.succ ?_, Ev.succ ?_, by simp⟩ <;> (simp only [spec_HasEdge.l0, impl_Edge_87.l0, Int.lt_irrefl, if_false]; exact Ev.now _)
  obtain ⟨r, q, h1, h2, hR⟩ := h
  refine ⟨r, h1, ?_, trivial⟩
  subst hR
  unfold impl_HasEdge.f impl_Edge_82.f impl_Edge_87.f
  exact Ev.bind (Ev.bind h2 (Ev.now _)) (Ev.now _)
theorem FnExactHasEdge : ∀ (x0 : List (S103)) (x1 : Int) (x2 : Int), (okRow PFnExactHasEdge.g103) x0 → (okInt .i64) x1 → (okInt .i64) x2 → ∃ k, laws_FnExactHasEdge.f k x0 x1 x2 = some true := by
  intro l a b hl _ _
  have hm : l.length ≤ 9223372036854775807 := by have := hl.1; simp only [maxLen] at this; omega
  apply Ev.rounds
  unfold laws_FnExactHasEdge.f
  simp only [sz_EdgeS l 1048576 (by omega) (by omega) hm, Option.bind_some]
  by_cases h : (1048576 : Int) < l.length
  · simp only [h, if_true]
    exact Ev.some rfl
  · have hs : l.length ≤ 1048576 := by omega
    have h0 : ¬ ((1048576 : Int) - l.length < 0) := by omega
    simp only [h, h0, if_false]
    obtain ⟨r, e1, e2, _⟩ := both_HasEdge (l.map cvEdge) a b (by simpa using hs)
    refine Ev.bind (ev_toEdgeS l hs) (Ev.bind e1 (Ev.bind (ev_toEdgeS l hs) (Ev.bind e2 ?_)))
    simp only [bne_self_eq_false, Bool.false_eq_true, if_false]
    refine Ev.bind (ev_toEdgeS l hs) (Ev.bind (ev_eqEdgeS _ (by simpa using hm)) ?_)
    exact Ev.some rfl

end Go.Proofs.Ytfjhhmgbmfjloaa.Pure
