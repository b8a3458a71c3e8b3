/- The plain statement of FnExactIsIndex: the two checks of an index keep step, so they answer alike. Condition: the list's length is at most maxLen. -/
import Derived.Test.YtfjhhmgbmfjloaaGoodFnExactIsIndex
import Derived.Test.YtfjhhmgbmfjloaaPlain
namespace Go.Proofs.Ytfjhhmgbmfjloaa.Pure
open Go.RowKit Go.Proofs.Ytfjhhmgbmfjloaa.PFnExactIsIndex Go.Proofs.YtfjhhmgbmfjloaaW.PrintWords Go.Proofs.YtfjhhmgbmfjloaaW.PrintLast Go.Proofs.Ytfjhhmgbmfjloaa.OpenK Go.Proofs.Ytfjhhmgbmfjloaa.Plain
set_option linter.unusedVariables false
set_option linter.unusedSimpArgs false

theorem sz_IndexNodeS (l : List S98) (a : Int) (h0 : 0 ≤ a) (h1 : a ≤ 1048576) (hl : l.length ≤ 9223372036854775807) : laws_szIndexNodeS.f l a = some (if a < l.length then -1 else a - l.length) := by
  unfold laws_szIndexNodeS.f
  rw [wrap_in (by omega) (by omega)]
  by_cases h : a < l.length
  · rw [if_pos (by omega), if_pos h]
  · rw [if_neg (by omega), if_neg h]

def cvIndexNode (x : S98) : S83 := ⟨x.f0, x.f1, x.f2⟩
theorem ev_toIndexNodeS (l : List S98) (hl : l.length ≤ 1048576) : Ev (fun k => laws_toIndexNodeS.f k l) (l.map cvIndexNode) := by
  have h : Ev (fun k => laws_toIndexNodeS.l0 k l (List.replicate l.length z83) ((0 : Nat) : Int)) (l.map cvIndexNode) := by
    refine ev_up (σ := List S83) (fun ys i k => laws_toIndexNodeS.l0 k l ys (i : Int)) l.length (fun ys i => Filled (l.map cvIndexNode) ys i) (fun _ _ => l.map cvIndexNode) ?_ ?_ (List.replicate l.length z83) 0 (Nat.zero_le _) (Filled.start _ _ (by simp))
    · intro ys i hi hI ih
      apply Ev.succ
      have h1 : (i : Int) < (l.length : Int) := by omega
      have h2 : (i : Int) < (ys.length : Int) := by have := hI.1; simp at this; omega
      simp only [laws_toIndexNodeS.l0, laws_toIndexNode.f, Option.bind_some, h1, h2, Int.natCast_nonneg, if_true, Int.toNat_natCast, wrap_up hi (by omega)]
      exact ih _ (hI.step (by simpa using hi) (by simp [cvIndexNode, rd_T98, hi]))
    · intro ys hI
      apply Ev.succ
      simp only [laws_toIndexNodeS.l0, Int.lt_irrefl, if_false]
      exact Ev.some (Filled.done (by simpa using hI))
  unfold laws_toIndexNodeS.f
  have h3 : ((l.length : Int) : Int).toNat ≤ 11728124029610 := by omega
  simp only [Int.natCast_nonneg, if_true, h3]
  simpa using h

theorem ev_eqIndexNodeS (l : List S83) (hl : l.length ≤ 9223372036854775807) : Ev (fun k => laws_eqIndexNodeS.f k l l) true := by
  have h : Ev (fun k => laws_eqIndexNodeS.l0 k l l ((0 : Nat) : Int)) true := by
    refine ev_up (σ := Unit) (fun _ i k => laws_eqIndexNodeS.l0 k l l (i : Int)) l.length (fun _ _ => True) (fun _ _ => true) ?_ ?_ () 0 (Nat.zero_le _) trivial
    · intro ys i hi hI ih
      apply Ev.succ
      have h1 : (i : Int) < (l.length : Int) := by omega
      simp only [laws_eqIndexNodeS.l0, laws_eqIndexNode.f, Option.bind_some, h1, Int.natCast_nonneg, if_true, wrap_up hi hl]
      exact ih () trivial
    · intro ys hI
      apply Ev.succ
      simp only [laws_eqIndexNodeS.l0, Int.lt_irrefl, if_false]
      exact Ev.now _
  unfold laws_eqIndexNodeS.f
  simp only [if_true]
  exact h


theorem both_IsIndex (l : List S83) (hl : l.length ≤ 1048576) : ∃ r, Ev (fun k => spec_IsIndex.f k l) r ∧ Ev (fun k => impl_IsIndex.f k l) r ∧ True := by
  refine ev_both (σ := Int) (τ := Int) (fun s i k => spec_IsIndex.l0 k l s (i : Int)) (fun s i k => impl_IsIndex.l0 k s l (l.length : Int) (i : Int)) l.length (fun s t _ => s = t) (fun _ => True) ?_ ?_ 0 0 0 (Nat.zero_le _) rfl
  · rintro s _ i hi rfl ih
    have h1 : (i : Int) < (l.length : Int) := by omega
    have e0 := wrap_up hi (by omega)
    obtain ⟨r, hs, ht, _⟩ := ih (wrap64 ((rd_T83 l i).f1 + 1)) _ rfl
    by_cases c0 : (rd_T83 l i).f0 = s
    · subst c0
      by_cases c1 : (rd_T83 l i).f0 ≤ (rd_T83 l i).f1 <;> by_cases c2 : (rd_T83 l i).f1 ≤ 5 <;> by_cases c3 : 0 ≤ (rd_T83 l i).f2 <;> by_cases c4 : (rd_T83 l i).f2 ≤ 999
      all_goals first
        | (refine ⟨false, Ev.succ ?_, Ev.succ ?_, trivial⟩ <;> (simp only [spec_IsIndex.l0, impl_IsIndex.l0, spec_l1In.f, impl_in.f, h1, c1, c2, c3, c4, Int.natCast_nonneg, ge_iff_le, decide_true, decide_false, if_true, if_false, Option.bind_some, Bool.false_eq_true]; exact Ev.now _))
        | (refine ⟨r, Ev.succ ?_, Ev.succ ?_, trivial⟩ <;> (simp only [spec_IsIndex.l0, impl_IsIndex.l0, spec_l1In.f, impl_in.f, h1, c1, c2, c3, c4, e0, Int.natCast_nonneg, ge_iff_le, decide_true, decide_false, if_true, if_false, Option.bind_some, Bool.false_eq_true]; assumption))
    · refine ⟨false, Ev.succ ?_, Ev.succ ?_, trivial⟩ <;> (simp only [spec_IsIndex.l0, impl_IsIndex.l0, h1, c0, Int.natCast_nonneg, if_true, if_false]; exact Ev.now _)
  · rintro s _ rfl
    refine ⟨s == 6, Ev.succ ?_, Ev.succ ?_, trivial⟩ <;> (simp [spec_IsIndex.l0, impl_IsIndex.l0]; exact Ev.now _)
theorem FnExactIsIndex : ∀ (x0 : List (S98)), (okRow PFnExactIsIndex.g98) x0 → ∃ k, laws_FnExactIsIndex.f k x0 = some true := by
  intro l hl
  have hm : l.length ≤ 9223372036854775807 := by have := hl.1; simp only [maxLen] at this; omega
  apply Ev.rounds
  unfold laws_FnExactIsIndex.f
  simp only [sz_IndexNodeS l 1048576 (by omega) (by omega) hm, Option.bind_some]
  by_cases h : (1048576 : Int) < l.length
  · simp only [h, if_true]
    exact Ev.some rfl
  · have hs : l.length ≤ 1048576 := by omega
    have h0 : ¬ ((1048576 : Int) - l.length < 0) := by omega
    simp only [h, h0, if_false]
    obtain ⟨r, e1, e2, _⟩ := both_IsIndex (l.map cvIndexNode) (by simpa using hs)
    refine Ev.bind (ev_toIndexNodeS l hs) (Ev.bind e1 (Ev.bind (ev_toIndexNodeS l hs) (Ev.bind e2 ?_)))
    simp only [bne_self_eq_false, Bool.false_eq_true, if_false]
    refine Ev.bind (ev_toIndexNodeS l hs) (Ev.bind (ev_eqIndexNodeS _ (by simpa using hm)) ?_)
    exact Ev.some rfl

end Go.Proofs.Ytfjhhmgbmfjloaa.Pure
