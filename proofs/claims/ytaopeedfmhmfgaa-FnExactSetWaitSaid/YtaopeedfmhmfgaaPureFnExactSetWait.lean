/- The plain statement of FnExactSetWait: both functions set the same wait at its place in the list, and marks in the result are held. Condition: the list's length is at most maxLen. -/
import Derived.Test.YtaopeedfmhmfgaaGoodFnExactSetWait
import Derived.Test.YtaopeedfmhmfgaaPlain
namespace Go.Proofs.Ytaopeedfmhmfgaa.Pure
open Go.RowKit Go.Proofs.Ytaopeedfmhmfgaa.PFnExactSetWait Go.Proofs.YtaopeedfmhmfgaaW.PrintWords Go.Proofs.YtaopeedfmhmfgaaW.PrintLast Go.Proofs.Ytaopeedfmhmfgaa.OpenK Go.Proofs.Ytaopeedfmhmfgaa.Plain
set_option linter.unusedVariables false
set_option linter.unusedSimpArgs false

theorem sz_WaitS (l : List S87) (a : Int) (h0 : 0 ≤ a) (h1 : a ≤ 1048576) (hl : l.length ≤ 9223372036854775807) : laws_szWaitS.f l a = some (if a < l.length then -1 else a - l.length) := by
  unfold laws_szWaitS.f
  rw [wrap_in (by omega) (by omega)]
  by_cases h : a < l.length
  · rw [if_pos (by omega), if_pos h]
  · rw [if_neg (by omega), if_neg h]

theorem szx_Wait (l : List S87) (a : Int) (h0 : 0 ≤ a) (h1 : a ≤ 1048576) (hl : l.length ≤ 9223372036854775807) : ∃ r, Ev (fun _ => laws_szWaitS.f l a) r ∧ r ≤ a ∧ (0 ≤ r → l.length ≤ 1048576) := by
  rw [sz_WaitS l a h0 h1 hl]
  refine ⟨_, Ev.now _, ?_, ?_⟩ <;> split <;> omega

def cvWait (x : S87) : S85 := ⟨x.f0, x.f1⟩
theorem ev_toWaitS (l : List S87) (hl : l.length ≤ 1048576) : Ev (fun k => laws_toWaitS.f k l) (l.map cvWait) := by
  have h : Ev (fun k => laws_toWaitS.l0 k l (List.replicate l.length z85) ((0 : Nat) : Int)) (l.map cvWait) := by
    refine ev_up (σ := List S85) (fun ys i k => laws_toWaitS.l0 k l ys (i : Int)) l.length (fun ys i => Filled (l.map cvWait) ys i) (fun _ _ => l.map cvWait) ?_ ?_ (List.replicate l.length z85) 0 (Nat.zero_le _) (Filled.start _ _ (by simp))
    · intro ys i hi hI ih
      apply Ev.succ
      have h1 : (i : Int) < (l.length : Int) := by omega
      have h2 : (i : Int) < (ys.length : Int) := by have := hI.1; simp at this; omega
      simp only [laws_toWaitS.l0, laws_toWait.f, Option.bind_some, h1, h2, Int.natCast_nonneg, if_true, Int.toNat_natCast, wrap_up hi (by omega)]
      exact ih _ (hI.step (by simpa using hi) (by simp [cvWait, rd_T87, hi]))
    · intro ys hI
      apply Ev.succ
      simp only [laws_toWaitS.l0, Int.lt_irrefl, if_false]
      exact Ev.some (Filled.done (by simpa using hI))
  unfold laws_toWaitS.f
  have h3 : ((l.length : Int) : Int).toNat ≤ 17592186044416 := by omega
  simp only [Int.natCast_nonneg, if_true, h3]
  simpa using h

theorem ev_eqWaitS (l : List S85) (hl : l.length ≤ 9223372036854775807) : Ev (fun k => laws_eqWaitS.f k l l) true := by
  have h : Ev (fun k => laws_eqWaitS.l0 k l l ((0 : Nat) : Int)) true := by
    refine ev_up (σ := Unit) (fun _ i k => laws_eqWaitS.l0 k l l (i : Int)) l.length (fun _ _ => True) (fun _ _ => true) ?_ ?_ () 0 (Nat.zero_le _) trivial
    · intro ys i hi hI ih
      apply Ev.succ
      have h1 : (i : Int) < (l.length : Int) := by omega
      simp only [laws_eqWaitS.l0, laws_eqWait.f, Option.bind_some, h1, Int.natCast_nonneg, if_true, wrap_up hi hl]
      exact ih () trivial
    · intro ys hI
      apply Ev.succ
      simp only [laws_eqWaitS.l0, Int.lt_irrefl, if_false]
      exact Ev.now _
  unfold laws_eqWaitS.f
  simp only [if_true]
  exact h

def mkWait : Int → S85 := (fun a : Int => (⟨a, a + 1⟩ : S85))
theorem ev_markWaitS (l : List S85) (hl : l.length ≤ 4194304) : Ev (fun k => laws_markWaitS.f k l 1) (1 + 2 * (l.length : Int), markL mkWait 2 l.length 1) := by
  have h : Ev (fun k => laws_markWaitS.l0 k l 1 ((0 : Nat) : Int)) (1 + 2 * (l.length : Int), markL mkWait 2 l.length 1) := by
    refine ev_up (σ := List S85 × Int) (fun s i k => laws_markWaitS.l0 k s.1 s.2 (i : Int)) l.length (fun s i => Filled (markL mkWait 2 l.length 1) s.1 i ∧ s.2 = 1 + 2 * (i : Int)) (fun _ _ => (1 + 2 * (l.length : Int), markL mkWait 2 l.length 1)) ?_ ?_ (l, 1) 0 (Nat.zero_le _) ⟨Filled.start _ _ (by simp [markL_length]), by simp⟩
    · rintro ⟨ys, a⟩ i hi ⟨hI, ha⟩ ih
      apply Ev.succ
      dsimp only at ha hI ⊢
      have hly : ys.length = l.length := by have := hI.1; simpa [markL_length] using this
      have h1 : (i : Int) < (ys.length : Int) := by omega
      have hiy : i < ys.length := by omega
      have w0 : wrap64 (a + 1) = a + 1 := wrap_in (by omega) (by omega)
      have w1 : wrap64 (a + 2) = a + 2 := wrap_in (by omega) (by omega)
      have hr := ih (ys.set i (mkWait a), a + 2) ⟨hI.step (by simpa [markL_length] using hi) (by rw [markL_get, ha]; rfl), by dsimp only; omega⟩
      dsimp only at hr
      simp only [laws_markWaitS.l0, Option.bind_some, h1, Int.natCast_nonneg, if_true, Int.toNat_natCast, wrap_up hi (by omega), w0, w1, show a + 1 + 1 = a + 2 from by omega]
      simpa [mkWait, rd_T85, hiy] using hr
    · rintro ⟨ys, a⟩ ⟨hI, ha⟩
      apply Ev.succ
      dsimp only at ha hI ⊢
      have hly : ys.length = l.length := by have := hI.1; simpa [markL_length] using this
      have h1 : ¬ ((l.length : Int) < (ys.length : Int)) := by omega
      simp only [laws_markWaitS.l0, h1, if_false]
      have hd : ys = markL mkWait 2 l.length 1 := Filled.done (by rw [markL_length]; exact hI)
      exact Ev.some (by rw [ha, hd])
  exact h
theorem ev_heldWaitS (n : Nat) (hn : n ≤ 4194304) : Ev (fun k => laws_heldWaitS.f k (markL mkWait 2 n 1) 1) (1 + 2 * (n : Int)) := by
  have h : Ev (fun k => laws_heldWaitS.l0 k (markL mkWait 2 n 1) 1 ((0 : Nat) : Int)) (1 + 2 * (n : Int)) := by
    refine ev_up (σ := Int) (fun a i k => laws_heldWaitS.l0 k (markL mkWait 2 n 1) a (i : Int)) n (fun a i => a = 1 + 2 * (i : Int)) (fun _ _ => 1 + 2 * (n : Int)) ?_ ?_ 1 0 (Nat.zero_le _) (by simp)
    · intro a i hi ha ih
      apply Ev.succ
      have h1 : (i : Int) < ((markL mkWait 2 n 1).length : Int) := by rw [markL_length]; omega
      have hiy : i < (markL mkWait 2 n 1).length := by rw [markL_length]; omega
      have hg : (markL mkWait 2 n 1)[i] = mkWait a := by rw [markL_get, ha]; rfl
      have w0 : wrap64 (a + 1) = a + 1 := wrap_in (by omega) (by omega)
      have w1 : wrap64 (a + 2) = a + 2 := wrap_in (by omega) (by omega)
      have hr := ih (a + 2) (by omega)
      have hrd : rd_T85 (markL mkWait 2 n 1) (i : Int) = mkWait a := by rw [← hg]; simp [rd_T85, hiy]
      simp only [laws_heldWaitS.l0, h1, Int.natCast_nonneg, if_true, hrd, wrap_up hi (by omega), w0, w1, show a + 1 + 1 = a + 2 from by omega]
      simpa [mkWait] using hr
    · intro a ha
      apply Ev.succ
      have h1 : ¬ ((n : Int) < ((markL mkWait 2 n 1).length : Int)) := by rw [markL_length]; omega
      simp only [laws_heldWaitS.l0, h1, if_false]
      exact Ev.some ha
  exact h


theorem both_AreWaits2 (l : List S85) (hl : l.length ≤ 1048576) : ∃ r, Ev (fun k => spec_AreWaits.f k l) r ∧ Ev (fun k => impl_AreWaits.f k l) r ∧ (r = true → ∀ j : Nat, j < l.length → (1 ≤ (rd_T85 l (j : Int)).f0 ∧ (rd_T85 l (j : Int)).f0 ≤ 9) ∧ (1 ≤ (rd_T85 l (j : Int)).f1 ∧ (rd_T85 l (j : Int)).f1 ≤ 9) ∧ (rd_T85 l (j : Int)).f0 ≠ (rd_T85 l (j : Int)).f1 ∧ (0 < j → (rd_T85 l ((j - 1 : Nat) : Int)).f0 < (rd_T85 l (j : Int)).f0)) := by
  let Q : Nat → Prop := fun j => (1 ≤ (rd_T85 l (j : Int)).f0 ∧ (rd_T85 l (j : Int)).f0 ≤ 9) ∧ (1 ≤ (rd_T85 l (j : Int)).f1 ∧ (rd_T85 l (j : Int)).f1 ≤ 9) ∧ (rd_T85 l (j : Int)).f0 ≠ (rd_T85 l (j : Int)).f1 ∧ (0 < j → (rd_T85 l ((j - 1 : Nat) : Int)).f0 < (rd_T85 l (j : Int)).f0)
  refine ev_both (σ := Unit) (τ := Unit) (fun _ i k => spec_AreWaits.l0 k l (i : Int)) (fun _ i k => impl_AreWaits.l0 k l l (l.length : Int) (i : Int)) l.length (fun _ _ i => ∀ j, j < i → Q j) (fun r => r = true → ∀ j, j < l.length → Q j) ?_ ?_ () () 0 (Nat.zero_le _) (fun j hj => absurd hj (by omega))
  · intro _ _ i hi hI ih
    have h1 : (i : Int) < (l.length : Int) := by omega
    have e0 := wrap_up hi (by omega)
    by_cases c0 : 1 ≤ (rd_T85 l i).f0 <;> by_cases c1 : (rd_T85 l i).f0 ≤ 9 <;> by_cases c2 : 1 ≤ (rd_T85 l i).f1 <;> by_cases c3 : (rd_T85 l i).f1 ≤ 9 <;> by_cases c4 : (rd_T85 l i).f0 = (rd_T85 l i).f1
    all_goals try (refine ⟨false, Ev.succ ?_, Ev.succ ?_, fun h => nomatch h⟩ <;> (simp [spec_AreWaits.l0, impl_AreWaits.l0, spec_l1In.f, impl_isID.f, impl_in.f, h1, c0, c1, c2, c3, c4]; first | done | exact Ev.now _))
    by_cases c5 : 0 < i
    · have e1 : wrap64 ((i : Int) - 1) = ((i - 1 : Nat) : Int) := wrap_down c5 (by omega)
      have h2 : ((i - 1 : Nat) : Int) < (l.length : Int) := by omega
      have h3 : (i : Int) > 0 := by omega
      by_cases c6 : (rd_T85 l ((i - 1 : Nat) : Int)).f0 ≥ (rd_T85 l i).f0
      · refine ⟨false, Ev.succ ?_, Ev.succ ?_, fun h => nomatch h⟩ <;> (simp only [spec_AreWaits.l0, impl_AreWaits.l0, spec_l1In.f, impl_isID.f, impl_in.f, h1, h2, h3, c0, c1, c2, c3, c4, c6, e1, Int.natCast_nonneg, ge_iff_le, decide_true, if_true, if_false, Option.bind_some]; exact Ev.now _)
      · obtain ⟨r, hs, ht, hR⟩ := ih () () (fun j hj => if hh : j < i then hI j hh else by obtain rfl : j = i := by omega
                                                                                           exact ⟨⟨c0, c1⟩, ⟨c2, c3⟩, c4, fun _ => by omega⟩)
        refine ⟨r, Ev.succ ?_, Ev.succ ?_, hR⟩ <;> (simp only [spec_AreWaits.l0, impl_AreWaits.l0, spec_l1In.f, impl_isID.f, impl_in.f, h1, h2, h3, c0, c1, c2, c3, c4, c6, e1, e0, Int.natCast_nonneg, ge_iff_le, decide_true, if_true, if_false, Option.bind_some]; assumption)
    · have h3 : ¬ ((i : Int) > 0) := by omega
      obtain ⟨r, hs, ht, hR⟩ := ih () () (fun j hj => if hh : j < i then hI j hh else by obtain rfl : j = i := by omega
                                                                                         exact ⟨⟨c0, c1⟩, ⟨c2, c3⟩, c4, fun h => absurd h c5⟩)
      refine ⟨r, Ev.succ ?_, Ev.succ ?_, hR⟩ <;> (simp only [spec_AreWaits.l0, impl_AreWaits.l0, spec_l1In.f, impl_isID.f, impl_in.f, h1, h3, c0, c1, c2, c3, c4, e0, Int.natCast_nonneg, ge_iff_le, decide_true, if_true, if_false, Option.bind_some]; assumption)
  · intro _ _ hI
    refine ⟨true, Ev.succ ?_, Ev.succ ?_, fun _ => hI⟩ <;> (simp [spec_AreWaits.l0, impl_AreWaits.l0]; exact Ev.now _)
theorem asc_Wait (l : List S85) (h : ∀ j : Nat, j < l.length → 0 < j → (rd_T85 l ((j - 1 : Nat) : Int)).f0 < (rd_T85 l (j : Int)).f0) : ∀ d i : Nat, i + d < l.length → (rd_T85 l (i : Int)).f0 ≤ (rd_T85 l ((i + d : Nat) : Int)).f0 := by
  intro d
  induction d with
  | zero => intro i _; exact Int.le_refl _
  | succ d ih =>
    intro i hi
    have h1 := ih i (by omega)
    have h2 := h (i + (d + 1)) hi (by omega)
    rw [show i + (d + 1) - 1 = i + d by omega] at h2
    exact Int.le_trans h1 (Int.le_of_lt h2)
/-- where a key has its place in a list that ascends -/
theorem place_Wait (l : List S85) (a : Int) (h : ∀ j : Nat, j < l.length → 0 < j → (rd_T85 l ((j - 1 : Nat) : Int)).f0 < (rd_T85 l (j : Int)).f0) : ∃ p : Nat, p ≤ l.length ∧ (∀ j : Nat, j < p → (rd_T85 l (j : Int)).f0 < a) ∧ (∀ j : Nat, p ≤ j → j < l.length → a ≤ (rd_T85 l (j : Int)).f0) := by
  have key : ∀ d i : Nat, l.length - i = d → i ≤ l.length → (∀ j : Nat, j < i → (rd_T85 l (j : Int)).f0 < a) → ∃ p : Nat, p ≤ l.length ∧ (∀ j : Nat, j < p → (rd_T85 l (j : Int)).f0 < a) ∧ (∀ j : Nat, p ≤ j → j < l.length → a ≤ (rd_T85 l (j : Int)).f0) := by
    intro d
    induction d with
    | zero => intro i hd hi hI; exact ⟨i, hi, hI, fun j h1 h2 => absurd h2 (by omega)⟩
    | succ d ih =>
      intro i hd hi hI
      by_cases c : (rd_T85 l (i : Int)).f0 < a
      · exact ih (i + 1) (by omega) (by omega) (fun j hj => if hh : j < i then hI j hh else by obtain rfl : j = i := (by omega); exact c)
      · refine ⟨i, hi, hI, fun j h1 h2 => ?_⟩
        have := asc_Wait l h (j - i) i (by omega)
        rw [show i + (j - i) = j by omega] at this
        omega
  exact key _ 0 rfl (Nat.zero_le _) (fun j hj => absurd hj (by omega))
theorem mid_Wait (i j : Nat) (h : i + j ≤ 4194304) : wrap64 ((IntKind.u64.wrap (wrap64 ((i : Int) + (j : Int)))) / 2) = (((i + j) / 2 : Nat) : Int) := by
  have h1 : wrap64 ((i : Int) + (j : Int)) = ((i + j : Nat) : Int) := by unfold wrap64; omega
  rw [h1]
  have h2 : IntKind.u64.wrap ((i + j : Nat) : Int) = ((i + j : Nat) : Int) := by simp [IntKind.wrap, IntKind.signed, IntKind.bits]; omega
  rw [h2]
  unfold wrap64; omega
theorem search_Wait (l : List S85) (a : Int) (hl : l.length ≤ 1048576) (p : Nat) (hp : p ≤ l.length) (h1 : ∀ j : Nat, j < p → (rd_T85 l (j : Int)).f0 < a) (h2 : ∀ j : Nat, p ≤ j → j < l.length → a ≤ (rd_T85 l (j : Int)).f0) : Ev (fun k => impl_Wait_int.f k l a) ((p : Int), decide (p < l.length ∧ (rd_T85 l (p : Int)).f0 = a)) := by
  have hcmp : ∀ x y : Int, impl_SetWait_1.f x y a = some (if x < a then -1 else if x > a then 1 else 0) := by
    intro x y
    by_cases c : x < a <;> by_cases d : x > a <;> simp [impl_SetWait_1.f, cmp_Compare_int.f, cmp_isNaN_int.f, c, d]
  have key : ∀ d i j : Nat, j - i ≤ d → i ≤ p → p ≤ j → j ≤ l.length → Ev (fun k => impl_Wait_int.l0 k l a (l.length : Int) (i : Int) (j : Int)) ((p : Int), decide (p < l.length ∧ (rd_T85 l (p : Int)).f0 = a)) := by
    intro d
    induction d with
    | zero =>
      intro i j hd hi hj hn
      obtain rfl : i = p := by omega
      obtain rfl : i = j := by omega
      apply Ev.succ
      simp only [impl_Wait_int.l0, Int.lt_irrefl, if_false]
      by_cases c : i < l.length
      · have c1 : (i : Int) < (l.length : Int) := by omega
        simp only [c1, Int.natCast_nonneg, if_true, hcmp, Option.bind_some]
        refine Ev.some ?_
        have g := h2 i (Nat.le_refl _) c
        by_cases e : (rd_T85 l (i : Int)).f0 = a
        · simp [e, c]
        · have e1 : ¬ (rd_T85 l (i : Int)).f0 < a := by omega
          have e2 : (rd_T85 l (i : Int)).f0 > a := by omega
          simp [e, e1, e2]
      · have c1 : ¬ (i : Int) < (l.length : Int) := by omega
        simp only [c1, if_false]
        exact Ev.some (by simp [c])
    | succ d ih =>
      intro i j hd hi hj hn
      by_cases hij : i < j
      · have c0 : (i : Int) < (j : Int) := by omega
        have c1 : ((((i + j) / 2 : Nat) : Int)) < (l.length : Int) := by omega
        have c2 : (i + j) / 2 < l.length := by omega
        apply Ev.succ
        simp only [impl_Wait_int.l0, c0, mid_Wait i j (by omega), c1, Int.natCast_nonneg, if_true, hcmp, Option.bind_some]
        by_cases e : (rd_T85 l (((i + j) / 2 : Nat) : Int)).f0 < a
        · have e0 : wrap64 ((((i + j) / 2 : Nat) : Int) + 1) = (((i + j) / 2 + 1 : Nat) : Int) := wrap_up c2 (by omega)
          simp only [e, if_true, e0, show ((-1 : Int) < 0) by decide]
          refine ih _ _ (by omega) ?_ hj hn
          by_cases q : (i + j) / 2 < p
          · omega
          · exact absurd (h2 _ (by omega) c2) (by omega)
        · have e1 : ¬ ((if (rd_T85 l (((i + j) / 2 : Nat) : Int)).f0 > a then (1 : Int) else 0) < 0) := by split <;> omega
          simp only [e, e1, if_false]
          refine ih _ _ (by omega) hi ?_ (by omega)
          by_cases q : p ≤ (i + j) / 2
          · exact q
          · exact absurd (h1 _ (by omega)) e
      · exact ih i j (by omega) hi hj hn
  exact key _ 0 l.length (Nat.le_refl _) (Nat.zero_le _) hp (Nat.le_refl _)
theorem end_SetWait (l : List S85) (a b : Int) (p : Nat) (hl : l.length ≤ 1048576) (hp : p ≤ l.length) (h2 : ∀ j : Nat, p ≤ j → j < l.length → a ≤ (rd_T85 l (j : Int)).f0) (c : ¬ (p < l.length ∧ (rd_T85 l (p : Int)).f0 = a)) (k : Nat) : spec_SetWait.l0 (k + 1) l a b (p : Int) = some (l.take p ++ [(⟨a, b⟩ : S85)] ++ l.drop p, true) := by
  have hl3 : (l.take p ++ [(⟨a, b⟩ : S85)]).length + (l.drop p).length < 8796093022208 := by rw [List.length_append, List.length_take, List.length_drop, List.length_singleton]; omega
  have hl4 : (l.take p).length < 8796093022208 := by rw [List.length_take]; omega
  have hl1 : ([] : List S85).length + (l.take p).length < 8796093022208 := by rw [List.length_take]; simp; omega
  have hpl : (p : Int) ≤ (l.length : Int) := by omega
  by_cases c0 : p < l.length
  · have g1 : (p : Int) < (l.length : Int) := by omega
    have g2 : ¬ (rd_T85 l (p : Int)).f0 < a := by have := h2 p (Nat.le_refl _) c0; omega
    have g3 : ¬ (rd_T85 l (p : Int)).f0 = a := fun e => c ⟨c0, e⟩
    rw [spec_SetWait.l0, if_pos g1, if_pos (Int.natCast_nonneg p), if_neg g2, Option.bind_some, if_pos hpl, Option.bind_some, Int.toNat_natCast, if_pos hl1, Option.bind_some, List.nil_append, if_pos hl4, Option.bind_some, if_neg g3, Option.bind_some, if_pos hl3]
  · have g1 : ¬ (p : Int) < (l.length : Int) := by omega
    rw [spec_SetWait.l0, if_neg g1]
    simp only [Int.natCast_nonneg, Int.toNat_natCast, hpl, if_true, Option.bind_some, hl1, List.nil_append, hl4, hl3]
theorem both_SetWait (l : List S85) (a b : Int) (hl : l.length ≤ 1048576) : ∃ r, Ev (fun k => spec_SetWait.f k l a b) r ∧ Ev (fun k => impl_SetWait.f k l a b) r ∧ r.1.length ≤ l.length + 1 := by
  obtain ⟨ok, eS, eI, hI⟩ := both_AreWaits2 l hl
  have hcap : ([] : List S85).length + l.length < 8796093022208 := by simp; omega
  have hclone : impl_Wait_70.f l = some l := by simp only [impl_Wait_70.f, Option.bind_some, hcap, if_true, List.nil_append]
  have sT : Ev (fun k => spec_SetWait.j0 k l a b true) (l, false) := Ev.succ (by simp only [spec_SetWait.j0, Option.bind_some, hcap, if_true, List.nil_append]; exact Ev.now _)
  have iT : Ev (fun k => impl_SetWait.j0 k l a b l true) (l, false) := Ev.succ (by simp only [impl_SetWait.j0, if_true]; exact Ev.now _)
  by_cases hk : ok = true
  rotate_left 1
  · refine ⟨(l, false), ?_, ?_, Nat.le_succ _⟩
    · unfold spec_SetWait.f
      refine Ev.bind eS ?_
      simp only [hk, if_false]; exact sT
    · unfold impl_SetWait.f
      simp only [hclone, Option.bind_some]
      refine Ev.bind eI ?_
      simp only [hk, if_false]; exact iT
  subst hk
  have hI := hI rfl
  have hg : ∀ x : Int, spec_l1In.f x 1 9 = some (decide (1 ≤ x) && decide (x ≤ 9)) := by intro x; by_cases c : 1 ≤ x <;> simp [spec_l1In.f, c]
  have hg' : ∀ x : Int, impl_isID.f x = some (decide (1 ≤ x) && decide (x ≤ 9)) := by intro x; by_cases c : 1 ≤ x <;> simp [impl_isID.f, impl_in.f, c]
  have hrest : ∃ r, Ev (fun k => spec_SetWait.j0 k l a b false) r ∧ Ev (fun k => impl_SetWait.j0 k l a b l false) r ∧ r.1.length ≤ l.length + 1 := by
    obtain ⟨p, hp, h1, h2⟩ := place_Wait l a (fun j hj h0 => (hI j hj).2.2.2 h0)
    have eb := search_Wait l a hl p hp h1 h2
    have hcap2 : (l.take p ++ [(⟨a, b⟩ : S85)]).length + l.length < 8796093022208 := by simp; omega
    have hl1 : ([] : List S85).length + (l.take p).length < 8796093022208 := by simp; omega
    have hl2 : ([] ++ l.take p).length < 8796093022208 := by simp; omega
    have htn : ((p : Int)).toNat = p := Int.toNat_natCast p
    have hpl : (p : Int) ≤ (l.length : Int) := by omega
    by_cases c : p < l.length ∧ (rd_T85 l (p : Int)).f0 = a
    · obtain ⟨c0, c1⟩ := c
      have e0 := wrap_up c0 (by omega)
      refine ⟨(l.take p ++ [(⟨a, b⟩ : S85)] ++ l.drop (p + 1), true), ?_, ?_, ?_⟩
      · apply Ev.succ
        simp only [spec_SetWait.j0, Bool.false_eq_true, if_false]
        show Ev (fun k => spec_SetWait.l0 k l a b ((0 : Nat) : Int)) _
        refine ev_up (σ := Unit) (fun _ i k => spec_SetWait.l0 k l a b (i : Int)) p (fun _ _ => True) (fun _ _ => (l.take p ++ [(⟨a, b⟩ : S85)] ++ l.drop (p + 1), true)) ?_ ?_ () 0 (Nat.zero_le _) trivial
        · intro _ i hi _ ih
          have g1 : (i : Int) < (l.length : Int) := by omega
          apply Ev.succ
          simp only [spec_SetWait.l0, g1, h1 i hi, wrap_up (show i < l.length by omega) (by omega), Int.natCast_nonneg, if_true]
          exact ih () trivial
        · intro _ _
          have g1 : (p : Int) < (l.length : Int) := by omega
          have g2 : ¬ (rd_T85 l (p : Int)).f0 < a := by omega
          have g3 : ((p + 1 : Nat) : Int) ≤ (l.length : Int) := by omega
          have hl3 : (l.take p ++ [(⟨a, b⟩ : S85)]).length + (l.drop (p + 1)).length < 8796093022208 := by simp; omega
          have g4 : ¬ a < a := Int.lt_irrefl a
          apply Ev.succ
          simp only [spec_SetWait.l0, g1, c1, g4, e0, g3, Int.natCast_nonneg, Int.toNat_natCast, hpl, if_true, if_false, Option.bind_some, hl1, hl2, List.nil_append]
          simp only [show (l.take p).length < 8796093022208 by simp; omega, hl3, if_true, Option.bind_some]
          exact Ev.now _
      · apply Ev.succ
        simp only [impl_SetWait.j0, Bool.false_eq_true, if_false]
        refine Ev.bind eb ?_
        have g1 : (p : Int) < (l.length : Int) := by omega
        simp only [c0, c1, g1, and_self, decide_true, Int.natCast_nonneg, Int.toNat_natCast, if_true]
        refine Ev.some ?_
        rw [List.set_eq_take_append_cons_drop, if_pos c0]
        simp
      · simp; omega
    · refine ⟨(l.take p ++ [(⟨a, b⟩ : S85)] ++ l.drop p, true), ?_, ?_, ?_⟩
      · apply Ev.succ
        simp only [spec_SetWait.j0, Bool.false_eq_true, if_false]
        show Ev (fun k => spec_SetWait.l0 k l a b ((0 : Nat) : Int)) _
        refine ev_up (σ := Unit) (fun _ i k => spec_SetWait.l0 k l a b (i : Int)) p (fun _ _ => True) (fun _ _ => (l.take p ++ [(⟨a, b⟩ : S85)] ++ l.drop p, true)) ?_ ?_ () 0 (Nat.zero_le _) trivial
        · intro _ i hi _ ih
          have g1 : (i : Int) < (l.length : Int) := by omega
          apply Ev.succ
          simp only [spec_SetWait.l0, g1, h1 i hi, wrap_up (show i < l.length by omega) (by omega), Int.natCast_nonneg, if_true]
          exact ih () trivial
        · intro _ _
          exact Ev.succ (by simp only [end_SetWait l a b p hl hp h2 c]; exact Ev.now _)
      · apply Ev.succ
        simp only [impl_SetWait.j0, Bool.false_eq_true, if_false]
        refine Ev.bind eb ?_
        have hd : decide (p < l.length ∧ (rd_T85 l (p : Int)).f0 = a) = false := decide_eq_false c
        have hins : impl_Wait_112.f l (p : Int) [(⟨a, b⟩ : S85)] = some (l.take p ++ [(⟨a, b⟩ : S85)] ++ l.drop p) := by
          unfold impl_Wait_112.f
          rw [if_pos ⟨Int.natCast_nonneg _, hpl, rfl, by omega⟩, htn]
        simp only [hd, hins, Bool.false_eq_true, if_false, Option.bind_some]
        exact Ev.now _
      · simp; omega
  unfold spec_SetWait.f impl_SetWait.f
  simp only [hclone, hg, hg', Option.bind_some]
  cases ca : (decide (1 ≤ a) && decide (a ≤ 9))
  · refine ⟨(l, false), Ev.bind eS ?_, Ev.bind eI ?_, Nat.le_succ _⟩
    · simp only [if_true, Bool.false_eq_true, if_false]; exact sT
    · simp only [if_true, Bool.false_eq_true, if_false]; exact iT
  cases cb : (decide (1 ≤ b) && decide (b ≤ 9))
  · refine ⟨(l, false), Ev.bind eS ?_, Ev.bind eI ?_, Nat.le_succ _⟩
    · simp only [if_true, Bool.false_eq_true, if_false]; exact sT
    · simp only [if_true, Bool.false_eq_true, if_false]; exact iT
  cases cc : (a == b)
  · obtain ⟨r, e1, e2, e3⟩ := hrest
    exact ⟨r, Ev.bind eS (by simpa only [if_true] using e1), Ev.bind eI (by simpa only [if_true] using e2), e3⟩
  · exact ⟨(l, false), Ev.bind eS (by simpa only [if_true] using sT), Ev.bind eI (by simpa only [if_true] using iT), Nat.le_succ _⟩
theorem FnExactSetWait : ∀ (x0 : List (S87)) (x1 : Int) (x2 : Int), (okRow PFnExactSetWait.g87) x0 → (okInt .i64) x1 → (okInt .i64) x2 → ∃ k, laws_FnExactSetWait.f k x0 x1 x2 = some true := by
  intro l a b hl _ _
  have hm : l.length ≤ 9223372036854775807 := by have := hl.1; simp only [maxLen] at this; omega
  apply Ev.rounds
  unfold laws_FnExactSetWait.f
  simp only [sz_WaitS l 1048576 (by omega) (by omega) hm, Option.bind_some]
  by_cases h : (1048576 : Int) < l.length
  · simp only [h, if_true]
    exact Ev.some rfl
  · have hs : l.length ≤ 1048576 := by omega
    have h0 : ¬ ((1048576 : Int) - l.length < 0) := by omega
    simp only [h, h0, if_false]
    obtain ⟨⟨r, ok⟩, e1, e2, hr⟩ := both_SetWait (l.map cvWait) a b (by simpa using hs)
    have hr' : r.length ≤ 1048577 := by simp at hr; omega
    clear hr
    refine Ev.bind (ev_toWaitS l hs) (Ev.bind e1 (Ev.bind (ev_toWaitS l hs) (Ev.bind e2 (Ev.bind (ev_eqWaitS r (by omega)) ?_))))
    simp only [if_true, bne_self_eq_false]
    apply Ev.succ
    simp only [laws_FnExactSetWait.j0, Bool.false_eq_true, if_false]
    refine Ev.bind (ev_toWaitS l hs) (Ev.bind (ev_eqWaitS _ (by simpa using hm)) ?_)
    simp only [if_true]
    refine Ev.bind (ev_markWaitS _ (by simp; omega)) ?_
    have hx : ¬ ((1 : Int) + 2 * ((l.map cvWait).length : Int) < 0) := by omega
    simp only [hx, if_false]
    refine Ev.bind (ev_eqWaitS r (by omega)) ?_
    simp only [if_true, bne_self_eq_false]
    apply Ev.succ
    simp only [laws_FnExactSetWait.j1, Bool.false_eq_true, if_false]
    refine Ev.bind (ev_markWaitS r (by omega)) (Ev.bind (ev_heldWaitS _ (by omega)) ?_)
    have hy : ¬ ((1 : Int) + 2 * (r.length : Int) < 0) := by omega
    simp only [hy, if_false, if_true]
    refine Ev.bind (ev_toWaitS l hs) (Ev.bind e2 (Ev.bind (ev_eqWaitS r (by omega)) ?_))
    simp only [if_true, bne_self_eq_false]
    apply Ev.succ
    simp only [laws_FnExactSetWait.j2, Bool.false_eq_true, if_false]
    refine Ev.bind (ev_heldWaitS _ (by omega)) ?_
    simp only [hy, if_false, if_true]
    exact Ev.some rfl

end Go.Proofs.Ytaopeedfmhmfgaa.Pure
