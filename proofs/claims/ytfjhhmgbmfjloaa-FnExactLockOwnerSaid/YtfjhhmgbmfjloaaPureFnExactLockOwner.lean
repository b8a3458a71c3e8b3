/- The plain statement of FnExactLockOwner: the two searches keep step, so they answer alike. Condition: the list's length is at most maxLen. -/
import Derived.Test.YtfjhhmgbmfjloaaGoodFnExactLockOwner
import Derived.Test.YtfjhhmgbmfjloaaPlain
namespace Go.Proofs.Ytfjhhmgbmfjloaa.Pure
open Go.RowKit Go.Proofs.Ytfjhhmgbmfjloaa.PFnExactLockOwner Go.Proofs.YtfjhhmgbmfjloaaW.PrintWords Go.Proofs.YtfjhhmgbmfjloaaW.PrintLast Go.Proofs.Ytfjhhmgbmfjloaa.OpenK Go.Proofs.Ytfjhhmgbmfjloaa.Plain
set_option linter.unusedVariables false
set_option linter.unusedSimpArgs false

theorem sz_LockS (l : List S93) (a : Int) (h0 : 0 ≤ a) (h1 : a ≤ 1048576) (hl : l.length ≤ 9223372036854775807) : laws_szLockS.f l a = some (if a < l.length then -1 else a - l.length) := by
  unfold laws_szLockS.f
  rw [wrap_in (by omega) (by omega)]
  by_cases h : a < l.length
  · rw [if_pos (by omega), if_pos h]
  · rw [if_neg (by omega), if_neg h]

def cvLock (x : S93) : S91 := ⟨x.f0, x.f1⟩
theorem ev_toLockS (l : List S93) (hl : l.length ≤ 1048576) : Ev (fun k => laws_toLockS.f k l) (l.map cvLock) := by
  have h : Ev (fun k => laws_toLockS.l0 k l (List.replicate l.length z91) ((0 : Nat) : Int)) (l.map cvLock) := by
    refine ev_up (σ := List S91) (fun ys i k => laws_toLockS.l0 k l ys (i : Int)) l.length (fun ys i => Filled (l.map cvLock) ys i) (fun _ _ => l.map cvLock) ?_ ?_ (List.replicate l.length z91) 0 (Nat.zero_le _) (Filled.start _ _ (by simp))
    · intro ys i hi hI ih
      apply Ev.succ
      have h1 : (i : Int) < (l.length : Int) := by omega
      have h2 : (i : Int) < (ys.length : Int) := by have := hI.1; simp at this; omega
      simp only [laws_toLockS.l0, laws_toLock.f, Option.bind_some, h1, h2, Int.natCast_nonneg, if_true, Int.toNat_natCast, wrap_up hi (by omega)]
      exact ih _ (hI.step (by simpa using hi) (by simp [cvLock, rd_T93, hi]))
    · intro ys hI
      apply Ev.succ
      simp only [laws_toLockS.l0, Int.lt_irrefl, if_false]
      exact Ev.some (Filled.done (by simpa using hI))
  unfold laws_toLockS.f
  have h3 : ((l.length : Int) : Int).toNat ≤ 17592186044416 := by omega
  simp only [Int.natCast_nonneg, if_true, h3]
  simpa using h

theorem ev_eqLockS (l : List S91) (hl : l.length ≤ 9223372036854775807) : Ev (fun k => laws_eqLockS.f k l l) true := by
  have h : Ev (fun k => laws_eqLockS.l0 k l l ((0 : Nat) : Int)) true := by
    refine ev_up (σ := Unit) (fun _ i k => laws_eqLockS.l0 k l l (i : Int)) l.length (fun _ _ => True) (fun _ _ => true) ?_ ?_ () 0 (Nat.zero_le _) trivial
    · intro ys i hi hI ih
      apply Ev.succ
      have h1 : (i : Int) < (l.length : Int) := by omega
      simp only [laws_eqLockS.l0, laws_eqLock.f, Option.bind_some, h1, Int.natCast_nonneg, if_true, wrap_up hi hl]
      exact ih () trivial
    · intro ys hI
      apply Ev.succ
      simp only [laws_eqLockS.l0, Int.lt_irrefl, if_false]
      exact Ev.now _
  unfold laws_eqLockS.f
  simp only [if_true]
  exact h


theorem both_LockOwner (l : List S91) (a : Int) (hl : l.length ≤ 1048576) : ∃ r, Ev (fun k => spec_LockOwner.f k l a) r ∧ Ev (fun k => impl_LockOwner.f k l a) r ∧ True := by
  have h : ∃ r q, Ev (fun k => spec_LockOwner.l0 k l a ((0 : Nat) : Int)) r ∧ Ev (fun k => impl_Lock.l0 k l (l.length : Int) ((0 : Nat) : Int) a) q ∧ ((q < 0 ∧ r = 0) ∨ (0 ≤ q ∧ q < (l.length : Int) ∧ r = (rd_T91 l q).f1)) := by
    refine ev_two (σ := Unit) (τ := Unit) (fun _ i k => spec_LockOwner.l0 k l a (i : Int)) (fun _ i k => impl_Lock.l0 k l (l.length : Int) (i : Int) a) l.length (fun _ _ _ => True) (fun r q => ((q < 0 ∧ r = 0) ∨ (0 ≤ q ∧ q < (l.length : Int) ∧ r = (rd_T91 l q).f1))) ?_ ?_ () () 0 (Nat.zero_le _) trivial
    · intro _ _ i hi _ ih
      have h1 : (i : Int) < (l.length : Int) := by omega
      have e0 := wrap_up hi (by omega)
      by_cases c : (rd_T91 l i).f0 = a
      · refine ⟨(rd_T91 l i).f1, (i : Int), Ev.succ ?_, Ev.succ ?_, .inr ⟨by omega, h1, rfl⟩⟩ <;> (simp only [spec_LockOwner.l0, impl_Lock.l0, impl_LockOwner_1.f, h1, c, beq_self_eq_true, Int.natCast_nonneg, if_true, Option.bind_some]; exact Ev.now _)
      · obtain ⟨r, q, hs, ht, hR⟩ := ih () () trivial
        have cb : ((rd_T91 l i).f0 == a) = false := by simpa using c
        refine ⟨r, q, Ev.succ ?_, Ev.succ ?_, hR⟩ <;> (simp only [spec_LockOwner.l0, impl_Lock.l0, impl_LockOwner_1.f, h1, c, cb, e0, Int.natCast_nonneg, if_true, if_false, Option.bind_some, Bool.false_eq_true]; assumption)
    · intro _ _ _
      refine ⟨0, -1, Ev.succ ?_, Ev.succ ?_, .inl ⟨by omega, rfl⟩⟩ <;> (simp only [spec_LockOwner.l0, impl_Lock.l0, Int.lt_irrefl, if_false]; exact Ev.now _)
  obtain ⟨r, q, h1, h2, hR⟩ := h
  refine ⟨r, h1, ?_, trivial⟩
  unfold impl_LockOwner.f impl_Lock.f
  refine Ev.bind h2 ?_
  rcases hR with ⟨hq, rfl⟩ | ⟨h0, hn, rfl⟩
  · simp only [hq, if_true]; exact Ev.now _
  · have : ¬ q < 0 := by omega
    simp only [this, h0, hn, if_false, if_true]; exact Ev.now _
theorem FnExactLockOwner : ∀ (x0 : List (S93)) (x1 : Int), (okRow PFnExactLockOwner.g93) x0 → (okInt .i64) x1 → ∃ k, laws_FnExactLockOwner.f k x0 x1 = some true := by
  intro l a hl _
  have hm : l.length ≤ 9223372036854775807 := by have := hl.1; simp only [maxLen] at this; omega
  apply Ev.rounds
  unfold laws_FnExactLockOwner.f
  simp only [sz_LockS l 1048576 (by omega) (by omega) hm, Option.bind_some]
  by_cases h : (1048576 : Int) < l.length
  · simp only [h, if_true]
    exact Ev.some rfl
  · have hs : l.length ≤ 1048576 := by omega
    have h0 : ¬ ((1048576 : Int) - l.length < 0) := by omega
    simp only [h, h0, if_false]
    obtain ⟨r, e1, e2, _⟩ := both_LockOwner (l.map cvLock) a (by simpa using hs)
    refine Ev.bind (ev_toLockS l hs) (Ev.bind e1 (Ev.bind (ev_toLockS l hs) (Ev.bind e2 ?_)))
    simp only [if_true]
    refine Ev.bind (ev_toLockS l hs) (Ev.bind (ev_eqLockS _ (by simpa using hm)) ?_)
    exact Ev.some rfl

end Go.Proofs.Ytfjhhmgbmfjloaa.Pure
