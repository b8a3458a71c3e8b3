/- The plain statement of FnExactLocksOf: the two functions keep step, so they answer alike, and marks in the result are held. Condition: the list's length is at most maxLen. -/
import Derived.Test.YtfjhhmgbmfjloaaGoodFnExactLocksOf
import Derived.Test.YtfjhhmgbmfjloaaPlain
namespace Go.Proofs.Ytfjhhmgbmfjloaa.Pure
open Go.RowKit Go.Proofs.Ytfjhhmgbmfjloaa.PFnExactLocksOf Go.Proofs.YtfjhhmgbmfjloaaW.PrintWords Go.Proofs.YtfjhhmgbmfjloaaW.PrintLast Go.Proofs.Ytfjhhmgbmfjloaa.OpenK Go.Proofs.Ytfjhhmgbmfjloaa.Plain
set_option linter.unusedVariables false
set_option linter.unusedSimpArgs false

theorem sz_LockS (l : List S93) (a : Int) (h0 : 0 ≤ a) (h1 : a ≤ 1048576) (hl : l.length ≤ 9223372036854775807) : laws_szLockS.f l a = some (if a < l.length then -1 else a - l.length) := by
  unfold laws_szLockS.f
  rw [wrap_in (by omega) (by omega)]
  by_cases h : a < l.length
  · rw [if_pos (by omega), if_pos h]
  · rw [if_neg (by omega), if_neg h]

def cvLock (x : S93) : S91 := ⟨x.f0, x.f1⟩
theorem ev_toLockS (l : List S93) (hl : l.length ≤ 1048576) : Ev (fun k => laws_toLockS.f k l) (l.map cvLock) := by
  have h : Ev (fun k => laws_toLockS.l0 k l (List.replicate l.length z91) ((0 : Nat) : Int)) (l.map cvLock) := by
    refine ev_up (σ := List S91) (fun ys i k => laws_toLockS.l0 k l ys (i : Int)) l.length (fun ys i => Filled (l.map cvLock) ys i) (fun _ _ => l.map cvLock) ?_ ?_ (List.replicate l.length z91) 0 (Nat.zero_le _) (Filled.start _ _ (by simp))
    · intro ys i hi hI ih
      apply Ev.succ
      have h1 : (i : Int) < (l.length : Int) := by omega
      have h2 : (i : Int) < (ys.length : Int) := by have := hI.1; simp at this; omega
      simp only [laws_toLockS.l0, laws_toLock.f, Option.bind_some, h1, h2, Int.natCast_nonneg, if_true, Int.toNat_natCast, wrap_up hi (by omega)]
      exact ih _ (hI.step (by simpa using hi) (by simp [cvLock, rd_T93, hi]))
    · intro ys hI
      apply Ev.succ
      simp only [laws_toLockS.l0, Int.lt_irrefl, if_false]
      exact Ev.some (Filled.done (by simpa using hI))
  unfold laws_toLockS.f
  have h3 : ((l.length : Int) : Int).toNat ≤ 17592186044416 := by omega
  simp only [Int.natCast_nonneg, if_true, h3]
  simpa using h

theorem ev_eqIntS (l : List Int) (hl : l.length ≤ 9223372036854775807) : Ev (fun k => laws_eqIntS.f k l l) true := by
  have h : Ev (fun k => laws_eqIntS.l0 k l l ((0 : Nat) : Int)) true := by
    refine ev_up (σ := Unit) (fun _ i k => laws_eqIntS.l0 k l l (i : Int)) l.length (fun _ _ => True) (fun _ _ => true) ?_ ?_ () 0 (Nat.zero_le _) trivial
    · intro ys i hi hI ih
      apply Ev.succ
      have h1 : (i : Int) < (l.length : Int) := by omega
      simp only [laws_eqIntS.l0, Option.bind_some, h1, Int.natCast_nonneg, if_true, wrap_up hi hl]
      exact ih () trivial
    · intro ys hI
      apply Ev.succ
      simp only [laws_eqIntS.l0, Int.lt_irrefl, if_false]
      exact Ev.now _
  unfold laws_eqIntS.f
  simp only [if_true]
  exact h

theorem ev_eqLockS (l : List S91) (hl : l.length ≤ 9223372036854775807) : Ev (fun k => laws_eqLockS.f k l l) true := by
  have h : Ev (fun k => laws_eqLockS.l0 k l l ((0 : Nat) : Int)) true := by
    refine ev_up (σ := Unit) (fun _ i k => laws_eqLockS.l0 k l l (i : Int)) l.length (fun _ _ => True) (fun _ _ => true) ?_ ?_ () 0 (Nat.zero_le _) trivial
    · intro ys i hi hI ih
      apply Ev.succ
      have h1 : (i : Int) < (l.length : Int) := by omega
      simp only [laws_eqLockS.l0, laws_eqLock.f, Option.bind_some, h1, Int.natCast_nonneg, if_true, wrap_up hi hl]
      exact ih () trivial
    · intro ys hI
      apply Ev.succ
      simp only [laws_eqLockS.l0, Int.lt_irrefl, if_false]
      exact Ev.now _
  unfold laws_eqLockS.f
  simp only [if_true]
  exact h

def mkInt : Int → Int := (fun a : Int => a)
theorem ev_markIntS (l : List Int) (hl : l.length ≤ 4194304) : Ev (fun k => laws_markIntS.f k l 1) (1 + 1 * (l.length : Int), markL mkInt 1 l.length 1) := by
  have h : Ev (fun k => laws_markIntS.l0 k l 1 ((0 : Nat) : Int)) (1 + 1 * (l.length : Int), markL mkInt 1 l.length 1) := by
    refine ev_up (σ := List Int × Int) (fun s i k => laws_markIntS.l0 k s.1 s.2 (i : Int)) l.length (fun s i => Filled (markL mkInt 1 l.length 1) s.1 i ∧ s.2 = 1 + 1 * (i : Int)) (fun _ _ => (1 + 1 * (l.length : Int), markL mkInt 1 l.length 1)) ?_ ?_ (l, 1) 0 (Nat.zero_le _) ⟨Filled.start _ _ (by simp [markL_length]), by simp⟩
    · rintro ⟨ys, a⟩ i hi ⟨hI, ha⟩ ih
      apply Ev.succ
      dsimp only at ha hI ⊢
      have hly : ys.length = l.length := by have := hI.1; simpa [markL_length] using this
      have h1 : (i : Int) < (ys.length : Int) := by omega
      have hiy : i < ys.length := by omega
      have w0 : wrap64 (a + 1) = a + 1 := wrap_in (by omega) (by omega)
      have hr := ih (ys.set i (mkInt a), a + 1) ⟨hI.step (by simpa [markL_length] using hi) (by rw [markL_get, ha]; rfl), by dsimp only; omega⟩
      dsimp only at hr
      simp only [laws_markIntS.l0, Option.bind_some, h1, Int.natCast_nonneg, if_true, Int.toNat_natCast, wrap_up hi (by omega), w0]
      simpa [mkInt, hiy] using hr
    · rintro ⟨ys, a⟩ ⟨hI, ha⟩
      apply Ev.succ
      dsimp only at ha hI ⊢
      have hly : ys.length = l.length := by have := hI.1; simpa [markL_length] using this
      have h1 : ¬ ((l.length : Int) < (ys.length : Int)) := by omega
      simp only [laws_markIntS.l0, h1, if_false]
      have hd : ys = markL mkInt 1 l.length 1 := Filled.done (by rw [markL_length]; exact hI)
      exact Ev.some (by rw [ha, hd])
  exact h
theorem ev_heldIntS (n : Nat) (hn : n ≤ 4194304) : Ev (fun k => laws_heldIntS.f k (markL mkInt 1 n 1) 1) (1 + 1 * (n : Int)) := by
  have h : Ev (fun k => laws_heldIntS.l0 k (markL mkInt 1 n 1) 1 ((0 : Nat) : Int)) (1 + 1 * (n : Int)) := by
    refine ev_up (σ := Int) (fun a i k => laws_heldIntS.l0 k (markL mkInt 1 n 1) a (i : Int)) n (fun a i => a = 1 + 1 * (i : Int)) (fun _ _ => 1 + 1 * (n : Int)) ?_ ?_ 1 0 (Nat.zero_le _) (by simp)
    · intro a i hi ha ih
      apply Ev.succ
      have h1 : (i : Int) < ((markL mkInt 1 n 1).length : Int) := by rw [markL_length]; omega
      have hiy : i < (markL mkInt 1 n 1).length := by rw [markL_length]; omega
      have hg : (markL mkInt 1 n 1)[i] = mkInt a := by rw [markL_get, ha]; rfl
      have w0 : wrap64 (a + 1) = a + 1 := wrap_in (by omega) (by omega)
      have hr := ih (a + 1) (by omega)
      have hrd : rd (markL mkInt 1 n 1) (i : Int) = mkInt a := by rw [← hg]; simp [rd, hiy]
      simp only [laws_heldIntS.l0, h1, Int.natCast_nonneg, if_true, hrd, wrap_up hi (by omega), w0]
      simpa [mkInt] using hr
    · intro a ha
      apply Ev.succ
      have h1 : ¬ ((n : Int) < ((markL mkInt 1 n 1).length : Int)) := by rw [markL_length]; omega
      simp only [laws_heldIntS.l0, h1, if_false]
      exact Ev.some ha
  exact h

def mkLock : Int → S91 := (fun a : Int => (⟨a, a + 1⟩ : S91))
theorem ev_markLockS (l : List S91) (hl : l.length ≤ 4194304) : Ev (fun k => laws_markLockS.f k l 1) (1 + 2 * (l.length : Int), markL mkLock 2 l.length 1) := by
  have h : Ev (fun k => laws_markLockS.l0 k l 1 ((0 : Nat) : Int)) (1 + 2 * (l.length : Int), markL mkLock 2 l.length 1) := by
    refine ev_up (σ := List S91 × Int) (fun s i k => laws_markLockS.l0 k s.1 s.2 (i : Int)) l.length (fun s i => Filled (markL mkLock 2 l.length 1) s.1 i ∧ s.2 = 1 + 2 * (i : Int)) (fun _ _ => (1 + 2 * (l.length : Int), markL mkLock 2 l.length 1)) ?_ ?_ (l, 1) 0 (Nat.zero_le _) ⟨Filled.start _ _ (by simp [markL_length]), by simp⟩
    · rintro ⟨ys, a⟩ i hi ⟨hI, ha⟩ ih
      apply Ev.succ
      dsimp only at ha hI ⊢
      have hly : ys.length = l.length := by have := hI.1; simpa [markL_length] using this
      have h1 : (i : Int) < (ys.length : Int) := by omega
      have hiy : i < ys.length := by omega
      have w0 : wrap64 (a + 1) = a + 1 := wrap_in (by omega) (by omega)
      have w1 : wrap64 (a + 2) = a + 2 := wrap_in (by omega) (by omega)
      have hr := ih (ys.set i (mkLock a), a + 2) ⟨hI.step (by simpa [markL_length] using hi) (by rw [markL_get, ha]; rfl), by dsimp only; omega⟩
      dsimp only at hr
      simp only [laws_markLockS.l0, Option.bind_some, h1, Int.natCast_nonneg, if_true, Int.toNat_natCast, wrap_up hi (by omega), w0, w1, show a + 1 + 1 = a + 2 from by omega]
      simpa [mkLock, rd_T91, hiy] using hr
    · rintro ⟨ys, a⟩ ⟨hI, ha⟩
      apply Ev.succ
      dsimp only at ha hI ⊢
      have hly : ys.length = l.length := by have := hI.1; simpa [markL_length] using this
      have h1 : ¬ ((l.length : Int) < (ys.length : Int)) := by omega
      simp only [laws_markLockS.l0, h1, if_false]
      have hd : ys = markL mkLock 2 l.length 1 := Filled.done (by rw [markL_length]; exact hI)
      exact Ev.some (by rw [ha, hd])
  exact h


theorem both_LocksOf (l : List S91) (a : Int) (hl : l.length ≤ 1048576) : ∃ r, Ev (fun k => spec_LocksOf.f k l a) r ∧ Ev (fun k => impl_LocksOf.f k l a) r ∧ r.length ≤ l.length := by
  refine ev_both (σ := List Int) (τ := List Int) (fun s i k => spec_LocksOf.l0 k l a s (i : Int)) (fun s i k => impl_LocksOf.l0 k a s l (l.length : Int) (i : Int)) l.length (fun s t i => s = t ∧ s.length ≤ i) (fun r => r.length ≤ l.length) ?_ ?_ [] [] 0 (Nat.zero_le _) ⟨rfl, by simp⟩
  · rintro s _ i hi ⟨rfl, hsl⟩ ih
    have h1 : (i : Int) < (l.length : Int) := by omega
    have e0 := wrap_up hi (by omega)
    have h2 : s.length < 17592186044416 := by omega
    by_cases c : (rd_T91 l i).f1 = a
    · obtain ⟨r, hs, ht, hr⟩ := ih (s ++ [(rd_T91 l i).f0]) _ ⟨rfl, by simp; omega⟩
      refine ⟨r, Ev.succ ?_, Ev.succ ?_, hr⟩ <;> (simp only [spec_LocksOf.l0, impl_LocksOf.l0, h1, h2, c, e0, Int.natCast_nonneg, if_true]; assumption)
    · obtain ⟨r, hs, ht, hr⟩ := ih s _ ⟨rfl, by omega⟩
      refine ⟨r, Ev.succ ?_, Ev.succ ?_, hr⟩ <;> (simp only [spec_LocksOf.l0, impl_LocksOf.l0, h1, c, e0, Int.natCast_nonneg, if_true, if_false]; assumption)
  · rintro s _ ⟨rfl, hsl⟩
    refine ⟨s, Ev.succ ?_, Ev.succ ?_, hsl⟩ <;> (simp [spec_LocksOf.l0, impl_LocksOf.l0]; exact Ev.now _)
theorem FnExactLocksOf : ∀ (x0 : List (S93)) (x1 : Int), (okRow PFnExactLocksOf.g93) x0 → (okInt .i64) x1 → ∃ k, laws_FnExactLocksOf.f k x0 x1 = some true := by
  intro l a hl _
  have hm : l.length ≤ 9223372036854775807 := by have := hl.1; simp only [maxLen] at this; omega
  apply Ev.rounds
  unfold laws_FnExactLocksOf.f
  simp only [sz_LockS l 1048576 (by omega) (by omega) hm, Option.bind_some]
  by_cases h : (1048576 : Int) < l.length
  · simp only [h, if_true]
    exact Ev.some rfl
  · have hs : l.length ≤ 1048576 := by omega
    have h0 : ¬ ((1048576 : Int) - l.length < 0) := by omega
    simp only [h, h0, if_false]
    obtain ⟨r, e1, e2, hr⟩ := both_LocksOf (l.map cvLock) a (by simpa using hs)
    have hr' : r.length ≤ 1048576 := by simp at hr; omega
    refine Ev.bind (ev_toLockS l hs) (Ev.bind e1 (Ev.bind (ev_toLockS l hs) (Ev.bind e2 (Ev.bind (ev_eqIntS r (by omega)) ?_))))
    simp only [if_true]
    refine Ev.bind (ev_toLockS l hs) (Ev.bind (ev_eqLockS _ (by simpa using hm)) ?_)
    simp only [if_true]
    refine Ev.bind (ev_markLockS _ (by simp; omega)) ?_
    have hx : ¬ ((1 : Int) + 2 * ((l.map cvLock).length : Int) < 0) := by omega
    simp only [hx, if_false]
    refine Ev.bind (ev_eqIntS r (by omega)) ?_
    simp only [Bool.not_true]
    apply Ev.succ
    simp only [laws_FnExactLocksOf.j0, Bool.false_eq_true, if_false]
    refine Ev.bind (ev_markIntS r (by omega)) (Ev.bind (ev_heldIntS _ (by omega)) ?_)
    have hy : ¬ ((1 : Int) + 1 * (r.length : Int) < 0) := by omega
    simp only [hy, if_false, if_true]
    refine Ev.bind (ev_toLockS l hs) (Ev.bind e2 (Ev.bind (ev_eqIntS r (by omega)) ?_))
    simp only [if_true]
    refine Ev.bind (ev_heldIntS _ (by omega)) ?_
    simp only [hy, if_false, if_true]
    exact Ev.some rfl

end Go.Proofs.Ytfjhhmgbmfjloaa.Pure
