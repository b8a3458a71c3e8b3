/- The plain statement of FnExactEqualSteps: the two comparisons keep step, so they answer alike. Condition: the lists' lengths are at most maxLen. -/
import Derived.Test.YtfjhhmgbmfjloaaGoodFnExactEqualSteps
import Derived.Test.YtfjhhmgbmfjloaaPlain
namespace Go.Proofs.Ytfjhhmgbmfjloaa.Pure
open Go.RowKit Go.Proofs.Ytfjhhmgbmfjloaa.PFnExactEqualSteps Go.Proofs.YtfjhhmgbmfjloaaW.PrintWords Go.Proofs.YtfjhhmgbmfjloaaW.PrintLast Go.Proofs.Ytfjhhmgbmfjloaa.OpenK Go.Proofs.Ytfjhhmgbmfjloaa.Plain
set_option linter.unusedVariables false
set_option linter.unusedSimpArgs false

theorem sz_IntS (l : List Int) (a : Int) (h0 : 0 ≤ a) (h1 : a ≤ 1048576) (hl : l.length ≤ 9223372036854775807) : laws_szIntS.f l a = some (if a < l.length then -1 else a - l.length) := by
  unfold laws_szIntS.f
  rw [wrap_in (by omega) (by omega)]
  by_cases h : a < l.length
  · rw [if_pos (by omega), if_pos h]
  · rw [if_neg (by omega), if_neg h]

theorem ev_eqIntS (l : List Int) (hl : l.length ≤ 9223372036854775807) : Ev (fun k => laws_eqIntS.f k l l) true := by
  have h : Ev (fun k => laws_eqIntS.l0 k l l ((0 : Nat) : Int)) true := by
    refine ev_up (σ := Unit) (fun _ i k => laws_eqIntS.l0 k l l (i : Int)) l.length (fun _ _ => True) (fun _ _ => true) ?_ ?_ () 0 (Nat.zero_le _) trivial
    · intro ys i hi hI ih
      apply Ev.succ
      have h1 : (i : Int) < (l.length : Int) := by omega
      simp only [laws_eqIntS.l0, Option.bind_some, h1, Int.natCast_nonneg, if_true, wrap_up hi hl]
      exact ih () trivial
    · intro ys hI
      apply Ev.succ
      simp only [laws_eqIntS.l0, Int.lt_irrefl, if_false]
      exact Ev.now _
  unfold laws_eqIntS.f
  simp only [if_true]
  exact h


theorem ev_toIntS (l : List Int) (hl : l.length ≤ 1048576) : Ev (fun k => laws_toIntS.f k l) l := by
  have h : Ev (fun k => laws_toIntS.l0 k l (List.replicate l.length 0) ((0 : Nat) : Int)) l := by
    refine ev_up (σ := List Int) (fun ys i k => laws_toIntS.l0 k l ys (i : Int)) l.length (fun ys i => Filled l ys i) (fun _ _ => l) ?_ ?_ (List.replicate l.length 0) 0 (Nat.zero_le _) (Filled.start _ _ (by simp))
    · intro ys i hi hI ih
      apply Ev.succ
      have h1 : (i : Int) < (l.length : Int) := by omega
      have h2 : (i : Int) < (ys.length : Int) := by have := hI.1; omega
      simp only [laws_toIntS.l0, h1, h2, Int.natCast_nonneg, if_true, Int.toNat_natCast, wrap_up hi (by omega)]
      exact ih _ (hI.step hi (by simp [rd, hi]))
    · intro ys hI
      apply Ev.succ
      simp only [laws_toIntS.l0, Int.lt_irrefl, if_false]
      exact Ev.some (Filled.done hI)
  unfold laws_toIntS.f
  have h3 : ((l.length : Int) : Int).toNat ≤ 35184372088832 := by omega
  simp only [Int.natCast_nonneg, if_true, h3]
  simpa using h
theorem ev_toStep (c : Int) (l : List Int) (hl : l.length ≤ 1048576) : Ev (fun k => laws_toStep.f k c l) (c, l) := by
  unfold laws_toStep.f
  exact Ev.bind (ev_toIntS l hl) (Ev.now _)
theorem ev_eqStep (c : Int) (l : List Int) (hl : l.length ≤ 9223372036854775807) : Ev (fun k => laws_eqStep.f k c l c l) true := by
  unfold laws_eqStep.f
  simp only [if_true]
  exact Ev.bind (ev_eqIntS l hl) (Ev.now _)
theorem both_EqualSteps (c d : Int) (l m : List Int) (hl : l.length ≤ 1048576) : ∃ r, Ev (fun k => spec_EqualSteps.f k c l d m) r ∧ Ev (fun k => impl_EqualSteps.f k c l d m) r ∧ True := by
  have key : l.length = m.length → ∃ r, Ev (fun k => spec_EqualSteps.l0 k ((0 : Nat) : Int) c l d m) r ∧ Ev (fun k => slices_Equal_int_int.l0 k l m (l.length : Int) ((0 : Nat) : Int)) r ∧ True := by
    intro hlm
    refine ev_both (σ := Unit) (τ := Unit) (fun _ i k => spec_EqualSteps.l0 k (i : Int) c l d m) (fun _ i k => slices_Equal_int_int.l0 k l m (l.length : Int) (i : Int)) l.length (fun _ _ _ => True) (fun _ => True) ?_ ?_ () () 0 (Nat.zero_le _) trivial
    · intro _ _ i hi _ ih
      have h1 : (i : Int) < (l.length : Int) := by omega
      have h2 : (i : Int) < (m.length : Int) := by omega
      have e0 := wrap_up hi (by omega)
      obtain ⟨r, hs, ht, _⟩ := ih () () trivial
      by_cases hc : rd l i = rd m i
      · refine ⟨r, Ev.succ ?_, Ev.succ ?_, trivial⟩ <;> (simp only [spec_EqualSteps.l0, slices_Equal_int_int.l0, h1, h2, hc, e0, Int.natCast_nonneg, if_true]; assumption)
      · refine ⟨false, Ev.succ ?_, Ev.succ ?_, trivial⟩ <;> (simp only [spec_EqualSteps.l0, slices_Equal_int_int.l0, h1, h2, hc, Int.natCast_nonneg, if_true, if_false]; exact Ev.now _)
    · intro _ _ _
      refine ⟨true, Ev.succ ?_, Ev.succ ?_, trivial⟩ <;> (simp [spec_EqualSteps.l0, slices_Equal_int_int.l0]; exact Ev.now _)
  by_cases hcd : c = d
  · by_cases h : l.length = m.length
    · obtain ⟨r, h1, h2, _⟩ := key h
      refine ⟨r, ?_, ?_, trivial⟩
      · unfold spec_EqualSteps.f; simp only [hcd, if_true]
        apply Ev.succ
        have : (((l.length : Int) != (m.length : Int)) = true) = False := by simp [h]
        simp only [spec_EqualSteps.j0, this, if_false]
        simpa [hcd] using h1
      · unfold impl_EqualSteps.f slices_Equal_int_int.f; simp only [hcd, if_true, h]; exact Ev.bind (by simpa [h] using h2) (Ev.now _)
    · refine ⟨false, ?_, ?_, trivial⟩
      · unfold spec_EqualSteps.f; simp only [hcd, if_true]
        apply Ev.succ
        have : (((l.length : Int) != (m.length : Int)) = true) = True := by simp; omega
        simp only [spec_EqualSteps.j0, this, if_true]
        exact Ev.now _
      · unfold impl_EqualSteps.f slices_Equal_int_int.f
        have : ¬ ((l.length : Int) = (m.length : Int)) := by omega
        simp only [hcd, if_true, this, if_false]; exact Ev.bind (Ev.now _) (Ev.now _)
  · refine ⟨false, ?_, ?_, trivial⟩
    · unfold spec_EqualSteps.f; simp only [hcd, if_false]
      apply Ev.succ
      simp only [spec_EqualSteps.j0, if_true]
      exact Ev.now _
    · unfold impl_EqualSteps.f; simp only [hcd, if_false]; exact Ev.now _
theorem FnExactEqualSteps : ∀ (x0_0 : Int) (x0_1 : List (Int)) (x1_0 : Int) (x1_1 : List (Int)), (okInt .i64) x0_0 → (okRow (okInt .i64)) x0_1 → (okInt .i64) x1_0 → (okRow (okInt .i64)) x1_1 → ∃ k, laws_FnExactEqualSteps.f k x0_0 x0_1 x1_0 x1_1 = some true := by
  intro c l d m _ hl _ hm
  have hl' : l.length ≤ 9223372036854775807 := by have := hl.1; simp only [maxLen] at this; omega
  have hm' : m.length ≤ 9223372036854775807 := by have := hm.1; simp only [maxLen] at this; omega
  apply Ev.rounds
  unfold laws_FnExactEqualSteps.f
  simp only [laws_szStep.f, sz_IntS l 1048576 (by omega) (by omega) hl', Option.bind_some]
  by_cases h : (1048576 : Int) < l.length
  · simp only [h, if_true, Option.bind_some, Int.reduceNeg, Int.reduceLT]
    exact Ev.some rfl
  · have hs : l.length ≤ 1048576 := by omega
    have h0 : ¬ ((1048576 : Int) - l.length < 0) := by omega
    simp only [h, h0, if_false, Option.bind_some]
    simp only [sz_IntS m (1048576 - l.length) (by omega) (by omega) hm', Option.bind_some]
    by_cases h' : (1048576 : Int) - l.length < m.length
    · simp only [h', if_true, Option.bind_some, Int.reduceNeg, Int.reduceLT]
      exact Ev.some rfl
    · have hs' : m.length ≤ 1048576 := by omega
      have h0' : ¬ ((1048576 : Int) - l.length - m.length < 0) := by omega
      simp only [h', h0', if_false, Option.bind_some]
      obtain ⟨r, e1, e2, _⟩ := both_EqualSteps c d l m hs
      refine Ev.bind (ev_toStep c l hs) (Ev.bind (ev_toStep d m hs') (Ev.bind e1 (Ev.bind (ev_toStep c l hs) (Ev.bind (ev_toStep d m hs') (Ev.bind e2 ?_)))))
      simp only [bne_self_eq_false, Bool.false_eq_true, if_false]
      refine Ev.bind (ev_toStep c l hs) (Ev.bind (ev_eqStep c l hl') ?_)
      simp only [if_true]
      refine Ev.bind (ev_toStep d m hs') (Ev.bind (ev_eqStep d m hm') ?_)
      exact Ev.some rfl

end Go.Proofs.Ytfjhhmgbmfjloaa.Pure
