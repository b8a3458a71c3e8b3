/- The plain statement of FnExactAreLocks: the two checks of a list of locks keep step, so they answer alike. Condition: the list's length is at most maxLen. -/
import Derived.Test.YtfjhhmgbmfjloaaGoodFnExactAreLocks
import Derived.Test.YtfjhhmgbmfjloaaPlain
namespace Go.Proofs.Ytfjhhmgbmfjloaa.Pure
open Go.RowKit Go.Proofs.Ytfjhhmgbmfjloaa.PFnExactAreLocks Go.Proofs.YtfjhhmgbmfjloaaW.PrintWords Go.Proofs.YtfjhhmgbmfjloaaW.PrintLast Go.Proofs.Ytfjhhmgbmfjloaa.OpenK Go.Proofs.Ytfjhhmgbmfjloaa.Plain
set_option linter.unusedVariables false
set_option linter.unusedSimpArgs false

theorem sz_LockS (l : List S93) (a : Int) (h0 : 0 ≤ a) (h1 : a ≤ 1048576) (hl : l.length ≤ 9223372036854775807) : laws_szLockS.f l a = some (if a < l.length then -1 else a - l.length) := by
  unfold laws_szLockS.f
  rw [wrap_in (by omega) (by omega)]
  by_cases h : a < l.length
  · rw [if_pos (by omega), if_pos h]
  · rw [if_neg (by omega), if_neg h]

def cvLock (x : S93) : S91 := ⟨x.f0, x.f1⟩
theorem ev_toLockS (l : List S93) (hl : l.length ≤ 1048576) : Ev (fun k => laws_toLockS.f k l) (l.map cvLock) := by
  have h : Ev (fun k => laws_toLockS.l0 k l (List.replicate l.length z91) ((0 : Nat) : Int)) (l.map cvLock) := by
    refine ev_up (σ := List S91) (fun ys i k => laws_toLockS.l0 k l ys (i : Int)) l.length (fun ys i => Filled (l.map cvLock) ys i) (fun _ _ => l.map cvLock) ?_ ?_ (List.replicate l.length z91) 0 (Nat.zero_le _) (Filled.start _ _ (by simp))
    · intro ys i hi hI ih
      apply Ev.succ
      have h1 : (i : Int) < (l.length : Int) := by omega
      have h2 : (i : Int) < (ys.length : Int) := by have := hI.1; simp at this; omega
      simp only [laws_toLockS.l0, laws_toLock.f, Option.bind_some, h1, h2, Int.natCast_nonneg, if_true, Int.toNat_natCast, wrap_up hi (by omega)]
      exact ih _ (hI.step (by simpa using hi) (by simp [cvLock, rd_T93, hi]))
    · intro ys hI
      apply Ev.succ
      simp only [laws_toLockS.l0, Int.lt_irrefl, if_false]
      exact Ev.some (Filled.done (by simpa using hI))
  unfold laws_toLockS.f
  have h3 : ((l.length : Int) : Int).toNat ≤ 17592186044416 := by omega
  simp only [Int.natCast_nonneg, if_true, h3]
  simpa using h

theorem ev_eqLockS (l : List S91) (hl : l.length ≤ 9223372036854775807) : Ev (fun k => laws_eqLockS.f k l l) true := by
  have h : Ev (fun k => laws_eqLockS.l0 k l l ((0 : Nat) : Int)) true := by
    refine ev_up (σ := Unit) (fun _ i k => laws_eqLockS.l0 k l l (i : Int)) l.length (fun _ _ => True) (fun _ _ => true) ?_ ?_ () 0 (Nat.zero_le _) trivial
    · intro ys i hi hI ih
      apply Ev.succ
      have h1 : (i : Int) < (l.length : Int) := by omega
      simp only [laws_eqLockS.l0, laws_eqLock.f, Option.bind_some, h1, Int.natCast_nonneg, if_true, wrap_up hi hl]
      exact ih () trivial
    · intro ys hI
      apply Ev.succ
      simp only [laws_eqLockS.l0, Int.lt_irrefl, if_false]
      exact Ev.now _
  unfold laws_eqLockS.f
  simp only [if_true]
  exact h


theorem both_AreLocks (l : List S91) (hl : l.length ≤ 1048576) : ∃ r, Ev (fun k => spec_AreLocks.f k l) r ∧ Ev (fun k => impl_AreLocks.f k l) r ∧ True := by
  refine ev_both (σ := Unit) (τ := Unit) (fun _ i k => spec_AreLocks.l0 k l (i : Int)) (fun _ i k => impl_AreLocks.l0 k l l (l.length : Int) (i : Int)) l.length (fun _ _ _ => True) (fun _ => True) ?_ ?_ () () 0 (Nat.zero_le _) trivial
  · intro _ _ i hi _ ih
    have h1 : (i : Int) < (l.length : Int) := by omega
    obtain ⟨r, hs, ht, _⟩ := ih () () trivial
    have e0 := wrap_up hi (by omega)
    by_cases c0 : 0 ≤ (rd_T91 l i).f0 <;> by_cases c1 : (rd_T91 l i).f0 ≤ 5 <;> by_cases c2 : 1 ≤ (rd_T91 l i).f1 <;> by_cases c3 : (rd_T91 l i).f1 ≤ 9
    all_goals try (refine ⟨false, Ev.succ ?_, Ev.succ ?_, trivial⟩ <;> (simp [spec_AreLocks.l0, impl_AreLocks.l0, spec_l1In.f, impl_isKey.f, impl_isID.f, impl_in.f, h1, c0, c1, c2, c3]; first | done | exact Ev.now _))
    by_cases c5 : 0 < i
    · have e1 : wrap64 ((i : Int) - 1) = ((i - 1 : Nat) : Int) := wrap_down c5 (by omega)
      have h2 : ((i - 1 : Nat) : Int) < (l.length : Int) := by omega
      have h3 : (i : Int) > 0 := by omega
      by_cases c6 : (rd_T91 l ((i - 1 : Nat) : Int)).f0 ≥ (rd_T91 l i).f0
      · refine ⟨false, Ev.succ ?_, Ev.succ ?_, trivial⟩ <;> (simp only [spec_AreLocks.l0, impl_AreLocks.l0, spec_l1In.f, impl_isKey.f, impl_isID.f, impl_in.f, h1, h2, h3, c0, c1, c2, c3, c6, e1, Int.natCast_nonneg, ge_iff_le, decide_true, if_true, if_false, Option.bind_some]; exact Ev.now _)
      · refine ⟨r, Ev.succ ?_, Ev.succ ?_, trivial⟩ <;> (simp only [spec_AreLocks.l0, impl_AreLocks.l0, spec_l1In.f, impl_isKey.f, impl_isID.f, impl_in.f, h1, h2, h3, c0, c1, c2, c3, c6, e1, e0, Int.natCast_nonneg, ge_iff_le, decide_true, if_true, if_false, Option.bind_some]; assumption)
    · have h3 : ¬ ((i : Int) > 0) := by omega
      refine ⟨r, Ev.succ ?_, Ev.succ ?_, trivial⟩ <;> (simp only [spec_AreLocks.l0, impl_AreLocks.l0, spec_l1In.f, impl_isKey.f, impl_isID.f, impl_in.f, h1, h3, c0, c1, c2, c3, e0, Int.natCast_nonneg, ge_iff_le, decide_true, if_true, if_false, Option.bind_some]; assumption)
  · intro _ _ _
    refine ⟨true, Ev.succ ?_, Ev.succ ?_, trivial⟩ <;> (simp [spec_AreLocks.l0, impl_AreLocks.l0]; exact Ev.now _)
theorem FnExactAreLocks : ∀ (x0 : List (S93)), (okRow PFnExactAreLocks.g93) x0 → ∃ k, laws_FnExactAreLocks.f k x0 = some true := by
  intro l hl
  have hm : l.length ≤ 9223372036854775807 := by have := hl.1; simp only [maxLen] at this; omega
  apply Ev.rounds
  unfold laws_FnExactAreLocks.f
  simp only [sz_LockS l 1048576 (by omega) (by omega) hm, Option.bind_some]
  by_cases h : (1048576 : Int) < l.length
  · simp only [h, if_true]
    exact Ev.some rfl
  · have hs : l.length ≤ 1048576 := by omega
    have h0 : ¬ ((1048576 : Int) - l.length < 0) := by omega
    simp only [h, h0, if_false]
    obtain ⟨r, e1, e2, _⟩ := both_AreLocks (l.map cvLock) (by simpa using hs)
    refine Ev.bind (ev_toLockS l hs) (Ev.bind e1 (Ev.bind (ev_toLockS l hs) (Ev.bind e2 ?_)))
    simp only [bne_self_eq_false, Bool.false_eq_true, if_false]
    refine Ev.bind (ev_toLockS l hs) (Ev.bind (ev_eqLockS _ (by simpa using hm)) ?_)
    exact Ev.some rfl

end Go.Proofs.Ytfjhhmgbmfjloaa.Pure
