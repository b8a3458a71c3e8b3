/- The plain statement of FnExactAcquireLock: both functions answer alike and give the same locks, and marks in the result are held. Condition: the list's length is at most maxLen. -/
import Derived.Test.YtaopeedfmhmfgaaGoodFnExactAcquireLock
import Derived.Test.YtaopeedfmhmfgaaPlain
namespace Go.Proofs.Ytaopeedfmhmfgaa.Pure
open Go.RowKit Go.Proofs.Ytaopeedfmhmfgaa.PFnExactAcquireLock Go.Proofs.YtaopeedfmhmfgaaW.PrintWords Go.Proofs.YtaopeedfmhmfgaaW.PrintLast Go.Proofs.Ytaopeedfmhmfgaa.OpenK Go.Proofs.Ytaopeedfmhmfgaa.Plain
set_option linter.unusedVariables false
set_option linter.unusedSimpArgs false

theorem sz_LockS (l : List S95) (a : Int) (h0 : 0 ≤ a) (h1 : a ≤ 1048576) (hl : l.length ≤ 9223372036854775807) : laws_szLockS.f l a = some (if a < l.length then -1 else a - l.length) := by
  unfold laws_szLockS.f
  rw [wrap_in (by omega) (by omega)]
  by_cases h : a < l.length
  · rw [if_pos (by omega), if_pos h]
  · rw [if_neg (by omega), if_neg h]

theorem szx_Lock (l : List S95) (a : Int) (h0 : 0 ≤ a) (h1 : a ≤ 1048576) (hl : l.length ≤ 9223372036854775807) : ∃ r, Ev (fun _ => laws_szLockS.f l a) r ∧ r ≤ a ∧ (0 ≤ r → l.length ≤ 1048576) := by
  rw [sz_LockS l a h0 h1 hl]
  refine ⟨_, Ev.now _, ?_, ?_⟩ <;> split <;> omega

def cvLock (x : S95) : S93 := ⟨x.f0, x.f1⟩
theorem ev_toLockS (l : List S95) (hl : l.length ≤ 1048576) : Ev (fun k => laws_toLockS.f k l) (l.map cvLock) := by
  have h : Ev (fun k => laws_toLockS.l0 k l (List.replicate l.length z93) ((0 : Nat) : Int)) (l.map cvLock) := by
    refine ev_up (σ := List S93) (fun ys i k => laws_toLockS.l0 k l ys (i : Int)) l.length (fun ys i => Filled (l.map cvLock) ys i) (fun _ _ => l.map cvLock) ?_ ?_ (List.replicate l.length z93) 0 (Nat.zero_le _) (Filled.start _ _ (by simp))
    · intro ys i hi hI ih
      apply Ev.succ
      have h1 : (i : Int) < (l.length : Int) := by omega
      have h2 : (i : Int) < (ys.length : Int) := by have := hI.1; simp at this; omega
      simp only [laws_toLockS.l0, laws_toLock.f, Option.bind_some, h1, h2, Int.natCast_nonneg, if_true, Int.toNat_natCast, wrap_up hi (by omega)]
      exact ih _ (hI.step (by simpa using hi) (by simp [cvLock, rd_T95, hi]))
    · intro ys hI
      apply Ev.succ
      simp only [laws_toLockS.l0, Int.lt_irrefl, if_false]
      exact Ev.some (Filled.done (by simpa using hI))
  unfold laws_toLockS.f
  have h3 : ((l.length : Int) : Int).toNat ≤ 17592186044416 := by omega
  simp only [Int.natCast_nonneg, if_true, h3]
  simpa using h

theorem ev_eqLockS (l : List S93) (hl : l.length ≤ 9223372036854775807) : Ev (fun k => laws_eqLockS.f k l l) true := by
  have h : Ev (fun k => laws_eqLockS.l0 k l l ((0 : Nat) : Int)) true := by
    refine ev_up (σ := Unit) (fun _ i k => laws_eqLockS.l0 k l l (i : Int)) l.length (fun _ _ => True) (fun _ _ => true) ?_ ?_ () 0 (Nat.zero_le _) trivial
    · intro ys i hi hI ih
      apply Ev.succ
      have h1 : (i : Int) < (l.length : Int) := by omega
      simp only [laws_eqLockS.l0, laws_eqLock.f, Option.bind_some, h1, Int.natCast_nonneg, if_true, wrap_up hi hl]
      exact ih () trivial
    · intro ys hI
      apply Ev.succ
      simp only [laws_eqLockS.l0, Int.lt_irrefl, if_false]
      exact Ev.now _
  unfold laws_eqLockS.f
  simp only [if_true]
  exact h

def mkLock : Int → S93 := (fun a : Int => (⟨a, a + 1⟩ : S93))
theorem ev_markLockS (l : List S93) (hl : l.length ≤ 4194304) : Ev (fun k => laws_markLockS.f k l 1) (1 + 2 * (l.length : Int), markL mkLock 2 l.length 1) := by
  have h : Ev (fun k => laws_markLockS.l0 k l 1 ((0 : Nat) : Int)) (1 + 2 * (l.length : Int), markL mkLock 2 l.length 1) := by
    refine ev_up (σ := List S93 × Int) (fun s i k => laws_markLockS.l0 k s.1 s.2 (i : Int)) l.length (fun s i => Filled (markL mkLock 2 l.length 1) s.1 i ∧ s.2 = 1 + 2 * (i : Int)) (fun _ _ => (1 + 2 * (l.length : Int), markL mkLock 2 l.length 1)) ?_ ?_ (l, 1) 0 (Nat.zero_le _) ⟨Filled.start _ _ (by simp [markL_length]), by simp⟩
    · rintro ⟨ys, a⟩ i hi ⟨hI, ha⟩ ih
      apply Ev.succ
      dsimp only at ha hI ⊢
      have hly : ys.length = l.length := by have := hI.1; simpa [markL_length] using this
      have h1 : (i : Int) < (ys.length : Int) := by omega
      have hiy : i < ys.length := by omega
      have w0 : wrap64 (a + 1) = a + 1 := wrap_in (by omega) (by omega)
      have w1 : wrap64 (a + 2) = a + 2 := wrap_in (by omega) (by omega)
      have hr := ih (ys.set i (mkLock a), a + 2) ⟨hI.step (by simpa [markL_length] using hi) (by rw [markL_get, ha]; rfl), by dsimp only; omega⟩
      dsimp only at hr
      simp only [laws_markLockS.l0, Option.bind_some, h1, Int.natCast_nonneg, if_true, Int.toNat_natCast, wrap_up hi (by omega), w0, w1, show a + 1 + 1 = a + 2 from by omega]
      simpa [mkLock, rd_T93, hiy] using hr
    · rintro ⟨ys, a⟩ ⟨hI, ha⟩
      apply Ev.succ
      dsimp only at ha hI ⊢
      have hly : ys.length = l.length := by have := hI.1; simpa [markL_length] using this
      have h1 : ¬ ((l.length : Int) < (ys.length : Int)) := by omega
      simp only [laws_markLockS.l0, h1, if_false]
      have hd : ys = markL mkLock 2 l.length 1 := Filled.done (by rw [markL_length]; exact hI)
      exact Ev.some (by rw [ha, hd])
  exact h
theorem ev_heldLockS (n : Nat) (hn : n ≤ 4194304) : Ev (fun k => laws_heldLockS.f k (markL mkLock 2 n 1) 1) (1 + 2 * (n : Int)) := by
  have h : Ev (fun k => laws_heldLockS.l0 k (markL mkLock 2 n 1) 1 ((0 : Nat) : Int)) (1 + 2 * (n : Int)) := by
    refine ev_up (σ := Int) (fun a i k => laws_heldLockS.l0 k (markL mkLock 2 n 1) a (i : Int)) n (fun a i => a = 1 + 2 * (i : Int)) (fun _ _ => 1 + 2 * (n : Int)) ?_ ?_ 1 0 (Nat.zero_le _) (by simp)
    · intro a i hi ha ih
      apply Ev.succ
      have h1 : (i : Int) < ((markL mkLock 2 n 1).length : Int) := by rw [markL_length]; omega
      have hiy : i < (markL mkLock 2 n 1).length := by rw [markL_length]; omega
      have hg : (markL mkLock 2 n 1)[i] = mkLock a := by rw [markL_get, ha]; rfl
      have w0 : wrap64 (a + 1) = a + 1 := wrap_in (by omega) (by omega)
      have w1 : wrap64 (a + 2) = a + 2 := wrap_in (by omega) (by omega)
      have hr := ih (a + 2) (by omega)
      have hrd : rd_T93 (markL mkLock 2 n 1) (i : Int) = mkLock a := by rw [← hg]; simp [rd_T93, hiy]
      simp only [laws_heldLockS.l0, h1, Int.natCast_nonneg, if_true, hrd, wrap_up hi (by omega), w0, w1, show a + 1 + 1 = a + 2 from by omega]
      simpa [mkLock] using hr
    · intro a ha
      apply Ev.succ
      have h1 : ¬ ((n : Int) < ((markL mkLock 2 n 1).length : Int)) := by rw [markL_length]; omega
      simp only [laws_heldLockS.l0, h1, if_false]
      exact Ev.some ha
  exact h


theorem both_AreLocks2 (l : List S93) (hl : l.length ≤ 1048576) : ∃ r, Ev (fun k => spec_AreLocks.f k l) r ∧ Ev (fun k => impl_AreLocks.f k l) r ∧ (r = true → ∀ j : Nat, j < l.length → (0 ≤ (rd_T93 l (j : Int)).f0 ∧ (rd_T93 l (j : Int)).f0 ≤ 5) ∧ (1 ≤ (rd_T93 l (j : Int)).f1 ∧ (rd_T93 l (j : Int)).f1 ≤ 9) ∧ (0 < j → (rd_T93 l ((j - 1 : Nat) : Int)).f0 < (rd_T93 l (j : Int)).f0)) := by
  let Q : Nat → Prop := fun j => (0 ≤ (rd_T93 l (j : Int)).f0 ∧ (rd_T93 l (j : Int)).f0 ≤ 5) ∧ (1 ≤ (rd_T93 l (j : Int)).f1 ∧ (rd_T93 l (j : Int)).f1 ≤ 9) ∧ (0 < j → (rd_T93 l ((j - 1 : Nat) : Int)).f0 < (rd_T93 l (j : Int)).f0)
  refine ev_both (σ := Unit) (τ := Unit) (fun _ i k => spec_AreLocks.l0 k l (i : Int)) (fun _ i k => impl_AreLocks.l0 k l l (l.length : Int) (i : Int)) l.length (fun _ _ i => ∀ j, j < i → Q j) (fun r => r = true → ∀ j, j < l.length → Q j) ?_ ?_ () () 0 (Nat.zero_le _) (fun j hj => absurd hj (by omega))
  · intro _ _ i hi hI ih
    have h1 : (i : Int) < (l.length : Int) := by omega
    have e0 := wrap_up hi (by omega)
    by_cases c0 : 0 ≤ (rd_T93 l i).f0 <;> by_cases c1 : (rd_T93 l i).f0 ≤ 5 <;> by_cases c2 : 1 ≤ (rd_T93 l i).f1 <;> by_cases c3 : (rd_T93 l i).f1 ≤ 9
    all_goals try (refine ⟨false, Ev.succ ?_, Ev.succ ?_, fun h => nomatch h⟩ <;> (simp [spec_AreLocks.l0, impl_AreLocks.l0, spec_l1In.f, impl_isKey.f, impl_isID.f, impl_in.f, h1, c0, c1, c2, c3]; first | done | exact Ev.now _))
    by_cases c5 : 0 < i
    · have e1 : wrap64 ((i : Int) - 1) = ((i - 1 : Nat) : Int) := wrap_down c5 (by omega)
      have h2 : ((i - 1 : Nat) : Int) < (l.length : Int) := by omega
      have h3 : (i : Int) > 0 := by omega
      by_cases c6 : (rd_T93 l ((i - 1 : Nat) : Int)).f0 ≥ (rd_T93 l i).f0
      · refine ⟨false, Ev.succ ?_, Ev.succ ?_, fun h => nomatch h⟩ <;> (simp only [spec_AreLocks.l0, impl_AreLocks.l0, spec_l1In.f, impl_isKey.f, impl_isID.f, impl_in.f, h1, h2, h3, c0, c1, c2, c3, c6, e1, Int.natCast_nonneg, ge_iff_le, decide_true, if_true, if_false, Option.bind_some]; exact Ev.now _)
      · obtain ⟨r, hs, ht, hR⟩ := ih () () (fun j hj => if hh : j < i then hI j hh else by obtain rfl : j = i := by omega
                                                                                           exact ⟨⟨c0, c1⟩, ⟨c2, c3⟩, fun _ => by omega⟩)
        refine ⟨r, Ev.succ ?_, Ev.succ ?_, hR⟩ <;> (simp only [spec_AreLocks.l0, impl_AreLocks.l0, spec_l1In.f, impl_isKey.f, impl_isID.f, impl_in.f, h1, h2, h3, c0, c1, c2, c3, c6, e1, e0, Int.natCast_nonneg, ge_iff_le, decide_true, if_true, if_false, Option.bind_some]; assumption)
    · have h3 : ¬ ((i : Int) > 0) := by omega
      obtain ⟨r, hs, ht, hR⟩ := ih () () (fun j hj => if hh : j < i then hI j hh else by obtain rfl : j = i := by omega
                                                                                         exact ⟨⟨c0, c1⟩, ⟨c2, c3⟩, fun h => absurd h c5⟩)
      refine ⟨r, Ev.succ ?_, Ev.succ ?_, hR⟩ <;> (simp only [spec_AreLocks.l0, impl_AreLocks.l0, spec_l1In.f, impl_isKey.f, impl_isID.f, impl_in.f, h1, h3, c0, c1, c2, c3, e0, Int.natCast_nonneg, ge_iff_le, decide_true, if_true, if_false, Option.bind_some]; assumption)
  · intro _ _ hI
    refine ⟨true, Ev.succ ?_, Ev.succ ?_, fun _ => hI⟩ <;> (simp [spec_AreLocks.l0, impl_AreLocks.l0]; exact Ev.now _)
theorem asc_Lock (l : List S93) (h : ∀ j : Nat, j < l.length → 0 < j → (rd_T93 l ((j - 1 : Nat) : Int)).f0 < (rd_T93 l (j : Int)).f0) : ∀ d i : Nat, i + d < l.length → (rd_T93 l (i : Int)).f0 ≤ (rd_T93 l ((i + d : Nat) : Int)).f0 := by
  intro d
  induction d with
  | zero => intro i _; exact Int.le_refl _
  | succ d ih =>
    intro i hi
    have h1 := ih i (by omega)
    have h2 := h (i + (d + 1)) hi (by omega)
    rw [show i + (d + 1) - 1 = i + d by omega] at h2
    exact Int.le_trans h1 (Int.le_of_lt h2)
/-- where a key has its place in a list that ascends -/
theorem place_Lock (l : List S93) (a : Int) (h : ∀ j : Nat, j < l.length → 0 < j → (rd_T93 l ((j - 1 : Nat) : Int)).f0 < (rd_T93 l (j : Int)).f0) : ∃ p : Nat, p ≤ l.length ∧ (∀ j : Nat, j < p → (rd_T93 l (j : Int)).f0 < a) ∧ (∀ j : Nat, p ≤ j → j < l.length → a ≤ (rd_T93 l (j : Int)).f0) := by
  have key : ∀ d i : Nat, l.length - i = d → i ≤ l.length → (∀ j : Nat, j < i → (rd_T93 l (j : Int)).f0 < a) → ∃ p : Nat, p ≤ l.length ∧ (∀ j : Nat, j < p → (rd_T93 l (j : Int)).f0 < a) ∧ (∀ j : Nat, p ≤ j → j < l.length → a ≤ (rd_T93 l (j : Int)).f0) := by
    intro d
    induction d with
    | zero => intro i hd hi hI; exact ⟨i, hi, hI, fun j h1 h2 => absurd h2 (by omega)⟩
    | succ d ih =>
      intro i hd hi hI
      by_cases c : (rd_T93 l (i : Int)).f0 < a
      · exact ih (i + 1) (by omega) (by omega) (fun j hj => if hh : j < i then hI j hh else by obtain rfl : j = i := (by omega); exact c)
      · refine ⟨i, hi, hI, fun j h1 h2 => ?_⟩
        have := asc_Lock l h (j - i) i (by omega)
        rw [show i + (j - i) = j by omega] at this
        omega
  exact key _ 0 rfl (Nat.zero_le _) (fun j hj => absurd hj (by omega))
theorem mid_Lock (i j : Nat) (h : i + j ≤ 4194304) : wrap64 ((IntKind.u64.wrap (wrap64 ((i : Int) + (j : Int)))) / 2) = (((i + j) / 2 : Nat) : Int) := by
  have h1 : wrap64 ((i : Int) + (j : Int)) = ((i + j : Nat) : Int) := by unfold wrap64; omega
  rw [h1]
  have h2 : IntKind.u64.wrap ((i + j : Nat) : Int) = ((i + j : Nat) : Int) := by simp [IntKind.wrap, IntKind.signed, IntKind.bits]; omega
  rw [h2]
  unfold wrap64; omega
theorem search_Lock (l : List S93) (a : Int) (hl : l.length ≤ 1048576) (p : Nat) (hp : p ≤ l.length) (h1 : ∀ j : Nat, j < p → (rd_T93 l (j : Int)).f0 < a) (h2 : ∀ j : Nat, p ≤ j → j < l.length → a ≤ (rd_T93 l (j : Int)).f0) : Ev (fun k => impl_Lock_int.f k l a) ((p : Int), decide (p < l.length ∧ (rd_T93 l (p : Int)).f0 = a)) := by
  have hcmp : ∀ x y : Int, impl_AcquireLock_1.f x y a = some (if x < a then -1 else if x > a then 1 else 0) := by
    intro x y
    by_cases c : x < a <;> by_cases d : x > a <;> simp [impl_AcquireLock_1.f, cmp_Compare_int.f, cmp_isNaN_int.f, c, d]
  have key : ∀ d i j : Nat, j - i ≤ d → i ≤ p → p ≤ j → j ≤ l.length → Ev (fun k => impl_Lock_int.l0 k l a (l.length : Int) (i : Int) (j : Int)) ((p : Int), decide (p < l.length ∧ (rd_T93 l (p : Int)).f0 = a)) := by
    intro d
    induction d with
    | zero =>
      intro i j hd hi hj hn
      obtain rfl : i = p := by omega
      obtain rfl : i = j := by omega
      apply Ev.succ
      simp only [impl_Lock_int.l0, Int.lt_irrefl, if_false]
      by_cases c : i < l.length
      · have c1 : (i : Int) < (l.length : Int) := by omega
        simp only [c1, Int.natCast_nonneg, if_true, hcmp, Option.bind_some]
        refine Ev.some ?_
        have g := h2 i (Nat.le_refl _) c
        by_cases e : (rd_T93 l (i : Int)).f0 = a
        · simp [e, c]
        · have e1 : ¬ (rd_T93 l (i : Int)).f0 < a := by omega
          have e2 : (rd_T93 l (i : Int)).f0 > a := by omega
          simp [e, e1, e2]
      · have c1 : ¬ (i : Int) < (l.length : Int) := by omega
        simp only [c1, if_false]
        exact Ev.some (by simp [c])
    | succ d ih =>
      intro i j hd hi hj hn
      by_cases hij : i < j
      · have c0 : (i : Int) < (j : Int) := by omega
        have c1 : ((((i + j) / 2 : Nat) : Int)) < (l.length : Int) := by omega
        have c2 : (i + j) / 2 < l.length := by omega
        apply Ev.succ
        simp only [impl_Lock_int.l0, c0, mid_Lock i j (by omega), c1, Int.natCast_nonneg, if_true, hcmp, Option.bind_some]
        by_cases e : (rd_T93 l (((i + j) / 2 : Nat) : Int)).f0 < a
        · have e0 : wrap64 ((((i + j) / 2 : Nat) : Int) + 1) = (((i + j) / 2 + 1 : Nat) : Int) := wrap_up c2 (by omega)
          simp only [e, if_true, e0, show ((-1 : Int) < 0) by decide]
          refine ih _ _ (by omega) ?_ hj hn
          by_cases q : (i + j) / 2 < p
          · omega
          · exact absurd (h2 _ (by omega) c2) (by omega)
        · have e1 : ¬ ((if (rd_T93 l (((i + j) / 2 : Nat) : Int)).f0 > a then (1 : Int) else 0) < 0) := by split <;> omega
          simp only [e, e1, if_false]
          refine ih _ _ (by omega) hi ?_ (by omega)
          by_cases q : p ≤ (i + j) / 2
          · exact q
          · exact absurd (h1 _ (by omega)) e
      · exact ih i j (by omega) hi hj hn
  exact key _ 0 l.length (Nat.le_refl _) (Nat.zero_le _) hp (Nat.le_refl _)
theorem end_AcquireLock (l : List S93) (a b : Int) (p : Nat) (hl : l.length ≤ 1048576) (hp : p ≤ l.length) (h2 : ∀ j : Nat, p ≤ j → j < l.length → a ≤ (rd_T93 l (j : Int)).f0) (k : Nat) : spec_AcquireLock.l0 (k + 1) a b l (p : Int) = some (l.take p ++ [(⟨a, b⟩ : S93)] ++ l.drop p, true) := by
  have hl3 : (l.take p ++ [(⟨a, b⟩ : S93)]).length + (l.drop p).length < 8796093022208 := by rw [List.length_append, List.length_take, List.length_drop, List.length_singleton]; omega
  have hl4 : (l.take p).length + [(⟨a, b⟩ : S93)].length < 8796093022208 := by rw [List.length_take, List.length_singleton]; omega
  have hl1 : ([] : List S93).length + (l.take p).length < 8796093022208 := by rw [List.length_take]; simp; omega
  have hpl : (p : Int) ≤ (l.length : Int) := by omega
  by_cases c0 : p < l.length
  · have g1 : (p : Int) < (l.length : Int) := by omega
    have g2 : ¬ (rd_T93 l (p : Int)).f0 < a := by have := h2 p (Nat.le_refl _) c0; omega
    rw [spec_AcquireLock.l0, if_pos g1, if_pos (Int.natCast_nonneg p), if_neg g2, Option.bind_some, if_pos hpl, Option.bind_some, Int.toNat_natCast, if_pos hl1, Option.bind_some, Option.bind_some, List.nil_append, if_pos hl4, Option.bind_some, Option.bind_some, if_pos hl3]
  · have g1 : ¬ (p : Int) < (l.length : Int) := by omega
    rw [spec_AcquireLock.l0, if_neg g1, Option.bind_some, if_pos (Int.natCast_nonneg p), if_pos hpl, Option.bind_some, Int.toNat_natCast, if_pos hl1, Option.bind_some, Option.bind_some, List.nil_append, if_pos hl4, Option.bind_some, Option.bind_some, if_pos hl3]
theorem owner_none (l : List S93) (a : Int) (hl : l.length ≤ 1048576) (h : ∀ j : Nat, j < l.length → (rd_T93 l (j : Int)).f0 ≠ a) : Ev (fun k => spec_LockOwner.f k l a) 0 := by
  refine ev_up (σ := Unit) (fun _ i k => spec_LockOwner.l0 k l a (i : Int)) l.length (fun _ _ => True) (fun _ _ => (0 : Int)) ?_ ?_ () 0 (Nat.zero_le _) trivial
  · intro _ i hi _ ih
    have g1 : (i : Int) < (l.length : Int) := by omega
    apply Ev.succ
    simp only [spec_LockOwner.l0, g1, h i hi, wrap_up hi (by omega), Int.natCast_nonneg, if_true, if_false]
    exact ih () trivial
  · intro _ _
    apply Ev.succ
    simp only [spec_LockOwner.l0, Int.lt_irrefl, if_false]; exact Ev.now _
theorem owner_at (l : List S93) (a : Int) (hl : l.length ≤ 1048576) (p : Nat) (hp : p < l.length) (h : ∀ j : Nat, j < p → (rd_T93 l (j : Int)).f0 < a) (e : (rd_T93 l (p : Int)).f0 = a) : Ev (fun k => spec_LockOwner.f k l a) (rd_T93 l (p : Int)).f1 := by
  refine ev_up (σ := Unit) (fun _ i k => spec_LockOwner.l0 k l a (i : Int)) p (fun _ _ => True) (fun _ _ => (rd_T93 l (p : Int)).f1) ?_ ?_ () 0 (Nat.zero_le _) trivial
  · intro _ i hi _ ih
    have g1 : (i : Int) < (l.length : Int) := by omega
    have g2 : ¬ (rd_T93 l (i : Int)).f0 = a := by have := h i hi; omega
    apply Ev.succ
    simp only [spec_LockOwner.l0, g1, g2, wrap_up (show i < l.length by omega) (by omega), Int.natCast_nonneg, if_true, if_false]
    exact ih () trivial
  · intro _ _
    have g1 : (p : Int) < (l.length : Int) := by omega
    apply Ev.succ
    simp only [spec_LockOwner.l0, g1, e, Int.natCast_nonneg, if_true]; exact Ev.now _
theorem both_AcquireLock (l : List S93) (a b : Int) (hl : l.length ≤ 1048576) : ∃ r, Ev (fun k => spec_AcquireLock.f k l a b) r ∧ Ev (fun k => impl_AcquireLock.f k l a b) r ∧ r.1.length ≤ l.length + 1 := by
  obtain ⟨ok, eS, eI, hI⟩ := both_AreLocks2 l hl
  obtain ⟨own, eO, -⟩ : ∃ r, Ev (fun k => spec_LockOwner.f k l a) r ∧ True := by
    refine ev_to (σ := Unit) (fun _ i k => spec_LockOwner.l0 k l a (i : Int)) l.length (fun _ _ => True) (fun _ => True) ?_ ?_ () 0 (Nat.zero_le _) trivial
    · intro _ i hi _ ih
      have g1 : (i : Int) < (l.length : Int) := by omega
      by_cases c : (rd_T93 l (i : Int)).f0 = a
      · exact ⟨_, Ev.succ (by simp only [spec_LockOwner.l0, g1, c, Int.natCast_nonneg, if_true]; exact Ev.now _), trivial⟩
      · obtain ⟨r, h, _⟩ := ih () trivial
        exact ⟨r, Ev.succ (by simp only [spec_LockOwner.l0, g1, c, wrap_up hi (by omega), Int.natCast_nonneg, if_true, if_false]; exact h), trivial⟩
    · intro _ _
      exact ⟨0, Ev.succ (by simp only [spec_LockOwner.l0, Int.lt_irrefl, if_false]; exact Ev.now _), trivial⟩
  have hcap : ([] : List S93).length + l.length < 8796093022208 := by simp; omega
  have hclone : impl_Lock_75.f l = some l := by simp only [impl_Lock_75.f, Option.bind_some, hcap, if_true, List.nil_append]
  have hcopy : spec_l10Copy.f l = some l := by simp only [spec_l10Copy.f, Option.bind_some, hcap, if_true, List.nil_append]
  have sT : ∀ n : Int, Ev (fun k => spec_AcquireLock.j0 k a b l n true) (l, false) := fun n => Ev.succ (by simp only [spec_AcquireLock.j0, if_true]; exact Ev.now _)
  have iT : Ev (fun k => impl_AcquireLock.j0 k l a b l true) (l, false) := Ev.succ (by simp only [impl_AcquireLock.j0, if_true]; exact Ev.now _)
  have hg : ∀ x : Int, spec_l1In.f x 1 9 = some (decide (1 ≤ x) && decide (x ≤ 9)) := by intro x; by_cases c : 1 ≤ x <;> simp [spec_l1In.f, c]
  have hg' : ∀ x : Int, impl_isID.f x = some (decide (1 ≤ x) && decide (x ≤ 9)) := by intro x; by_cases c : 1 ≤ x <;> simp [impl_isID.f, impl_in.f, c]
  have hk0 : ∀ x : Int, spec_l1In.f x 0 5 = some (decide (0 ≤ x) && decide (x ≤ 5)) := by intro x; by_cases c : 0 ≤ x <;> simp [spec_l1In.f, c]
  have hk1 : ∀ x : Int, impl_isKey.f x = some (decide (0 ≤ x) && decide (x ≤ 5)) := by intro x; by_cases c : 0 ≤ x <;> simp [impl_isKey.f, impl_in.f, c]
  unfold spec_AcquireLock.f impl_AcquireLock.f
  simp only [hclone, hcopy, hg, hg', hk0, hk1, Option.bind_some]
  by_cases hk : ok = true
  rotate_left 1
  · refine ⟨(l, false), Ev.bind eO (Ev.bind eS ?_), Ev.bind eI ?_, Nat.le_succ _⟩
    · simp only [hk, if_false]; exact sT _
    · simp only [hk, if_false]; exact iT
  subst hk
  have hI := hI rfl
  cases ca : (decide (0 ≤ a) && decide (a ≤ 5))
  · refine ⟨(l, false), Ev.bind eO (Ev.bind eS ?_), Ev.bind eI ?_, Nat.le_succ _⟩
    · simp only [if_true, Bool.false_eq_true, if_false]; exact sT _
    · simp only [if_true, Bool.false_eq_true, if_false]; exact iT
  cases cb : (decide (1 ≤ b) && decide (b ≤ 9))
  · refine ⟨(l, false), Ev.bind eO (Ev.bind eS ?_), Ev.bind eI ?_, Nat.le_succ _⟩
    · simp only [if_true, Bool.false_eq_true, if_false]; exact sT _
    · simp only [if_true, Bool.not_false]; exact iT
  have hb : 1 ≤ b := by simp only [Bool.and_eq_true, decide_eq_true_eq] at cb; exact cb.1
  obtain ⟨p, hp, h1, h2⟩ := place_Lock l a (fun j hj h0 => (hI j hj).2.2 h0)
  have eb := search_Lock l a hl p hp h1 h2
  have hpl : (p : Int) ≤ (l.length : Int) := by omega
  by_cases c : p < l.length ∧ (rd_T93 l (p : Int)).f0 = a
  · obtain ⟨c0, c1⟩ := c
    have eO := owner_at l a hl p c0 h1 c1
    have hn := (hI p c0).2.1
    have hn0 : ¬ (rd_T93 l (p : Int)).f1 = 0 := by omega
    have g1 : (p : Int) < (l.length : Int) := by omega
    refine ⟨(l, (rd_T93 l (p : Int)).f1 == b), Ev.bind eO (Ev.bind eS ?_), Ev.bind eI ?_, Nat.le_succ _⟩
    · simp only [if_true, hn0, if_false]
      by_cases e : (rd_T93 l (p : Int)).f1 = b
      · have e2 : ((rd_T93 l (p : Int)).f1 != b) = false := by simp [e]
        have e3 : ((rd_T93 l (p : Int)).f1 == b) = true := by simp [e]
        rw [e2, e3]
        apply Ev.succ
        simp only [spec_AcquireLock.j0, e, Bool.false_eq_true, if_false, if_true]; exact Ev.now _
      · have e2 : ((rd_T93 l (p : Int)).f1 != b) = true := by simp [e]
        have e3 : ((rd_T93 l (p : Int)).f1 == b) = false := by simp [e]
        rw [e2, e3]
        exact sT _
    · simp only [if_true, Bool.not_true]
      apply Ev.succ
      simp only [impl_AcquireLock.j0, Bool.false_eq_true, if_false]
      refine Ev.bind eb ?_
      simp only [c0, c1, g1, and_self, decide_true, Int.natCast_nonneg, if_true]
      exact Ev.now _
  · have eO := owner_none l a hl (by
      intro j hj e
      by_cases q : j < p
      · have := h1 j q; omega
      · by_cases q2 : j = p
        · subst q2; exact c ⟨hj, e⟩
        · have g0 := h2 (j - 1) (by omega) (by omega)
          have g1 := (hI j hj).2.2 (by omega)
          omega)
    have hb0 : ¬ (0 : Int) = b := by omega
    refine ⟨(l.take p ++ [(⟨a, b⟩ : S93)] ++ l.drop p, true), Ev.bind eO (Ev.bind eS ?_), Ev.bind eI ?_, ?_⟩
    · simp only [if_true]
      apply Ev.succ
      simp only [spec_AcquireLock.j0, hb0, Bool.false_eq_true, if_false]
      show Ev (fun k => spec_AcquireLock.l0 k a b l ((0 : Nat) : Int)) _
      refine ev_up (σ := Unit) (fun _ i k => spec_AcquireLock.l0 k a b l (i : Int)) p (fun _ _ => True) (fun _ _ => (l.take p ++ [(⟨a, b⟩ : S93)] ++ l.drop p, true)) ?_ ?_ () 0 (Nat.zero_le _) trivial
      · intro _ i hi _ ih
        have g1 : (i : Int) < (l.length : Int) := by omega
        have e0 := wrap_up (show i < l.length by omega) (by omega)
        have e : ∀ k, spec_AcquireLock.l0 (k + 1) a b l (i : Int) = spec_AcquireLock.l0 k a b l ((i + 1 : Nat) : Int) := by
          intro k
          rw [spec_AcquireLock.l0, if_pos g1, if_pos (Int.natCast_nonneg i), if_pos (h1 i hi), e0]
        exact Ev.succ (by simp only [e]; exact ih () trivial)
      · intro _ _
        exact Ev.succ (by simp only [end_AcquireLock l a b p hl hp h2]; exact Ev.now _)
    · simp only [if_true, Bool.not_true]
      apply Ev.succ
      simp only [impl_AcquireLock.j0, Bool.false_eq_true, if_false]
      refine Ev.bind eb ?_
      have hd : decide (p < l.length ∧ (rd_T93 l (p : Int)).f0 = a) = false := decide_eq_false c
      have hins : impl_Lock_119.f l (p : Int) [(⟨a, b⟩ : S93)] = some (l.take p ++ [(⟨a, b⟩ : S93)] ++ l.drop p) := by
        unfold impl_Lock_119.f
        rw [if_pos ⟨Int.natCast_nonneg _, hpl, rfl, by omega⟩, Int.toNat_natCast]
      simp only [hd, hins, Bool.false_eq_true, if_false, Option.bind_some]
      exact Ev.now _
    · rw [List.length_append, List.length_append, List.length_take, List.length_drop, List.length_singleton]; omega
theorem FnExactAcquireLock : ∀ (x0 : List (S95)) (x1 : Int) (x2 : Int), (okRow PFnExactAcquireLock.g95) x0 → (okInt .i64) x1 → (okInt .i64) x2 → ∃ k, laws_FnExactAcquireLock.f k x0 x1 x2 = some true := by
  intro l a b hl _ _
  have hm : l.length ≤ 9223372036854775807 := by have := hl.1; simp only [maxLen] at this; omega
  apply Ev.rounds
  unfold laws_FnExactAcquireLock.f
  simp only [sz_LockS l 1048576 (by omega) (by omega) hm, Option.bind_some]
  by_cases h : (1048576 : Int) < l.length
  · simp only [h, if_true]
    exact Ev.some rfl
  · have hs : l.length ≤ 1048576 := by omega
    have h0 : ¬ ((1048576 : Int) - l.length < 0) := by omega
    simp only [h, h0, if_false]
    obtain ⟨⟨r, ok⟩, e1, e2, hr⟩ := both_AcquireLock (l.map cvLock) a b (by simpa using hs)
    have hr' : r.length ≤ 1048577 := by simp at hr; omega
    clear hr
    refine Ev.bind (ev_toLockS l hs) (Ev.bind e1 (Ev.bind (ev_toLockS l hs) (Ev.bind e2 (Ev.bind (ev_eqLockS r (by omega)) ?_))))
    simp only [if_true, bne_self_eq_false]
    apply Ev.succ
    simp only [laws_FnExactAcquireLock.j0, Bool.false_eq_true, if_false]
    refine Ev.bind (ev_toLockS l hs) (Ev.bind (ev_eqLockS _ (by simpa using hm)) ?_)
    simp only [if_true]
    refine Ev.bind (ev_markLockS _ (by simp; omega)) ?_
    have hx : ¬ ((1 : Int) + 2 * ((l.map cvLock).length : Int) < 0) := by omega
    simp only [hx, if_false]
    refine Ev.bind (ev_eqLockS r (by omega)) ?_
    simp only [if_true, bne_self_eq_false]
    apply Ev.succ
    simp only [laws_FnExactAcquireLock.j1, Bool.false_eq_true, if_false]
    refine Ev.bind (ev_markLockS r (by omega)) (Ev.bind (ev_heldLockS _ (by omega)) ?_)
    have hy : ¬ ((1 : Int) + 2 * (r.length : Int) < 0) := by omega
    simp only [hy, if_false, if_true]
    refine Ev.bind (ev_toLockS l hs) (Ev.bind e2 (Ev.bind (ev_eqLockS r (by omega)) ?_))
    simp only [if_true, bne_self_eq_false]
    apply Ev.succ
    simp only [laws_FnExactAcquireLock.j2, Bool.false_eq_true, if_false]
    refine Ev.bind (ev_heldLockS _ (by omega)) ?_
    simp only [hy, if_false, if_true]
    exact Ev.some rfl

end Go.Proofs.Ytaopeedfmhmfgaa.Pure
