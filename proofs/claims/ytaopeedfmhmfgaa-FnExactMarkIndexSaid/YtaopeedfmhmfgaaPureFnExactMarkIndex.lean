/- The plain statement of FnExactMarkIndex: both functions mark the same node of the list, and marks in the result are held. Condition: the list's length is at most maxLen. -/
import Derived.Test.YtaopeedfmhmfgaaGoodFnExactMarkIndex
import Derived.Test.YtaopeedfmhmfgaaPlain
namespace Go.Proofs.Ytaopeedfmhmfgaa.Pure
open Go.RowKit Go.Proofs.Ytaopeedfmhmfgaa.PFnExactMarkIndex Go.Proofs.YtaopeedfmhmfgaaW.PrintWords Go.Proofs.YtaopeedfmhmfgaaW.PrintLast Go.Proofs.Ytaopeedfmhmfgaa.OpenK Go.Proofs.Ytaopeedfmhmfgaa.Plain
set_option linter.unusedVariables false
set_option linter.unusedSimpArgs false

theorem sz_IndexNodeS (l : List S112) (a : Int) (h0 : 0 ≤ a) (h1 : a ≤ 1048576) (hl : l.length ≤ 9223372036854775807) : laws_szIndexNodeS.f l a = some (if a < l.length then -1 else a - l.length) := by
  unfold laws_szIndexNodeS.f
  rw [wrap_in (by omega) (by omega)]
  by_cases h : a < l.length
  · rw [if_pos (by omega), if_pos h]
  · rw [if_neg (by omega), if_neg h]

theorem szx_IndexNode (l : List S112) (a : Int) (h0 : 0 ≤ a) (h1 : a ≤ 1048576) (hl : l.length ≤ 9223372036854775807) : ∃ r, Ev (fun _ => laws_szIndexNodeS.f l a) r ∧ r ≤ a ∧ (0 ≤ r → l.length ≤ 1048576) := by
  rw [sz_IndexNodeS l a h0 h1 hl]
  refine ⟨_, Ev.now _, ?_, ?_⟩ <;> split <;> omega

def cvIndexNode (x : S112) : S110 := ⟨x.f0, x.f1, x.f2⟩
theorem ev_toIndexNodeS (l : List S112) (hl : l.length ≤ 1048576) : Ev (fun k => laws_toIndexNodeS.f k l) (l.map cvIndexNode) := by
  have h : Ev (fun k => laws_toIndexNodeS.l0 k l (List.replicate l.length z110) ((0 : Nat) : Int)) (l.map cvIndexNode) := by
    refine ev_up (σ := List S110) (fun ys i k => laws_toIndexNodeS.l0 k l ys (i : Int)) l.length (fun ys i => Filled (l.map cvIndexNode) ys i) (fun _ _ => l.map cvIndexNode) ?_ ?_ (List.replicate l.length z110) 0 (Nat.zero_le _) (Filled.start _ _ (by simp))
    · intro ys i hi hI ih
      apply Ev.succ
      have h1 : (i : Int) < (l.length : Int) := by omega
      have h2 : (i : Int) < (ys.length : Int) := by have := hI.1; simp at this; omega
      simp only [laws_toIndexNodeS.l0, laws_toIndexNode.f, Option.bind_some, h1, h2, Int.natCast_nonneg, if_true, Int.toNat_natCast, wrap_up hi (by omega)]
      exact ih _ (hI.step (by simpa using hi) (by simp [cvIndexNode, rd_T112, hi]))
    · intro ys hI
      apply Ev.succ
      simp only [laws_toIndexNodeS.l0, Int.lt_irrefl, if_false]
      exact Ev.some (Filled.done (by simpa using hI))
  unfold laws_toIndexNodeS.f
  have h3 : ((l.length : Int) : Int).toNat ≤ 11728124029610 := by omega
  simp only [Int.natCast_nonneg, if_true, h3]
  simpa using h

theorem ev_eqIndexNodeS (l : List S110) (hl : l.length ≤ 9223372036854775807) : Ev (fun k => laws_eqIndexNodeS.f k l l) true := by
  have h : Ev (fun k => laws_eqIndexNodeS.l0 k l l ((0 : Nat) : Int)) true := by
    refine ev_up (σ := Unit) (fun _ i k => laws_eqIndexNodeS.l0 k l l (i : Int)) l.length (fun _ _ => True) (fun _ _ => true) ?_ ?_ () 0 (Nat.zero_le _) trivial
    · intro ys i hi hI ih
      apply Ev.succ
      have h1 : (i : Int) < (l.length : Int) := by omega
      simp only [laws_eqIndexNodeS.l0, laws_eqIndexNode.f, Option.bind_some, h1, Int.natCast_nonneg, if_true, wrap_up hi hl]
      exact ih () trivial
    · intro ys hI
      apply Ev.succ
      simp only [laws_eqIndexNodeS.l0, Int.lt_irrefl, if_false]
      exact Ev.now _
  unfold laws_eqIndexNodeS.f
  simp only [if_true]
  exact h

def mkIndexNode : Int → S110 := (fun a : Int => (⟨a, a + 1, a + 2⟩ : S110))
theorem ev_markIndexNodeS (l : List S110) (hl : l.length ≤ 4194304) : Ev (fun k => laws_markIndexNodeS.f k l 1) (1 + 3 * (l.length : Int), markL mkIndexNode 3 l.length 1) := by
  have h : Ev (fun k => laws_markIndexNodeS.l0 k l 1 ((0 : Nat) : Int)) (1 + 3 * (l.length : Int), markL mkIndexNode 3 l.length 1) := by
    refine ev_up (σ := List S110 × Int) (fun s i k => laws_markIndexNodeS.l0 k s.1 s.2 (i : Int)) l.length (fun s i => Filled (markL mkIndexNode 3 l.length 1) s.1 i ∧ s.2 = 1 + 3 * (i : Int)) (fun _ _ => (1 + 3 * (l.length : Int), markL mkIndexNode 3 l.length 1)) ?_ ?_ (l, 1) 0 (Nat.zero_le _) ⟨Filled.start _ _ (by simp [markL_length]), by simp⟩
    · rintro ⟨ys, a⟩ i hi ⟨hI, ha⟩ ih
      apply Ev.succ
      dsimp only at ha hI ⊢
      have hly : ys.length = l.length := by have := hI.1; simpa [markL_length] using this
      have h1 : (i : Int) < (ys.length : Int) := by omega
      have hiy : i < ys.length := by omega
      have w0 : wrap64 (a + 1) = a + 1 := wrap_in (by omega) (by omega)
      have w1 : wrap64 (a + 2) = a + 2 := wrap_in (by omega) (by omega)
      have w2 : wrap64 (a + 3) = a + 3 := wrap_in (by omega) (by omega)
      have hr := ih (ys.set i (mkIndexNode a), a + 3) ⟨hI.step (by simpa [markL_length] using hi) (by rw [markL_get, ha]; rfl), by dsimp only; omega⟩
      dsimp only at hr
      simp only [laws_markIndexNodeS.l0, Option.bind_some, h1, Int.natCast_nonneg, if_true, Int.toNat_natCast, wrap_up hi (by omega), w0, w1, w2, show a + 1 + 1 = a + 2 from by omega, show a + 2 + 1 = a + 3 from by omega]
      simpa [mkIndexNode, rd_T110, hiy] using hr
    · rintro ⟨ys, a⟩ ⟨hI, ha⟩
      apply Ev.succ
      dsimp only at ha hI ⊢
      have hly : ys.length = l.length := by have := hI.1; simpa [markL_length] using this
      have h1 : ¬ ((l.length : Int) < (ys.length : Int)) := by omega
      simp only [laws_markIndexNodeS.l0, h1, if_false]
      have hd : ys = markL mkIndexNode 3 l.length 1 := Filled.done (by rw [markL_length]; exact hI)
      exact Ev.some (by rw [ha, hd])
  exact h
theorem ev_heldIndexNodeS (n : Nat) (hn : n ≤ 4194304) : Ev (fun k => laws_heldIndexNodeS.f k (markL mkIndexNode 3 n 1) 1) (1 + 3 * (n : Int)) := by
  have h : Ev (fun k => laws_heldIndexNodeS.l0 k (markL mkIndexNode 3 n 1) 1 ((0 : Nat) : Int)) (1 + 3 * (n : Int)) := by
    refine ev_up (σ := Int) (fun a i k => laws_heldIndexNodeS.l0 k (markL mkIndexNode 3 n 1) a (i : Int)) n (fun a i => a = 1 + 3 * (i : Int)) (fun _ _ => 1 + 3 * (n : Int)) ?_ ?_ 1 0 (Nat.zero_le _) (by simp)
    · intro a i hi ha ih
      apply Ev.succ
      have h1 : (i : Int) < ((markL mkIndexNode 3 n 1).length : Int) := by rw [markL_length]; omega
      have hiy : i < (markL mkIndexNode 3 n 1).length := by rw [markL_length]; omega
      have hg : (markL mkIndexNode 3 n 1)[i] = mkIndexNode a := by rw [markL_get, ha]; rfl
      have w0 : wrap64 (a + 1) = a + 1 := wrap_in (by omega) (by omega)
      have w1 : wrap64 (a + 2) = a + 2 := wrap_in (by omega) (by omega)
      have w2 : wrap64 (a + 3) = a + 3 := wrap_in (by omega) (by omega)
      have hr := ih (a + 3) (by omega)
      have hrd : rd_T110 (markL mkIndexNode 3 n 1) (i : Int) = mkIndexNode a := by rw [← hg]; simp [rd_T110, hiy]
      simp only [laws_heldIndexNodeS.l0, h1, Int.natCast_nonneg, if_true, hrd, wrap_up hi (by omega), w0, w1, w2, show a + 1 + 1 = a + 2 from by omega, show a + 2 + 1 = a + 3 from by omega]
      simpa [mkIndexNode] using hr
    · intro a ha
      apply Ev.succ
      have h1 : ¬ ((n : Int) < ((markL mkIndexNode 3 n 1).length : Int)) := by rw [markL_length]; omega
      simp only [laws_heldIndexNodeS.l0, h1, if_false]
      exact Ev.some ha
  exact h


theorem l1In_eq (a b c : Int) : spec_l1In.f a b c = some (decide (b ≤ a) && decide (a ≤ c)) := by
  by_cases h : b ≤ a <;> simp [spec_l1In.f, h]
theorem in_eq (a b c : Int) : impl_in.f a b c = some (decide (b ≤ a) && decide (a ≤ c)) := by
  by_cases h : b ≤ a <;> simp [impl_in.f, h]
theorem both_IsIndex2 (l : List S110) (hl : l.length ≤ 1048576) : ∃ r, Ev (fun k => spec_IsIndex.f k l) r ∧ Ev (fun k => impl_IsIndex.f k l) r ∧ (r = true → ∀ j : Nat, j < l.length → 0 ≤ (rd_T110 l (j : Int)).f0 ∧ (rd_T110 l (j : Int)).f0 ≤ (rd_T110 l (j : Int)).f1 ∧ (rd_T110 l (j : Int)).f1 ≤ 5 ∧ 0 ≤ (rd_T110 l (j : Int)).f2 ∧ (rd_T110 l (j : Int)).f2 ≤ 999) := by
  refine ev_both (σ := Int) (τ := Int) (fun s i k => spec_IsIndex.l0 k l s (i : Int)) (fun s i k => impl_IsIndex.l0 k s l (l.length : Int) (i : Int)) l.length (fun s t i => s = t ∧ 0 ≤ s ∧ ∀ j : Nat, j < i → 0 ≤ (rd_T110 l (j : Int)).f0 ∧ (rd_T110 l (j : Int)).f0 ≤ (rd_T110 l (j : Int)).f1 ∧ (rd_T110 l (j : Int)).f1 ≤ 5 ∧ 0 ≤ (rd_T110 l (j : Int)).f2 ∧ (rd_T110 l (j : Int)).f2 ≤ 999) (fun r => r = true → ∀ j : Nat, j < l.length → 0 ≤ (rd_T110 l (j : Int)).f0 ∧ (rd_T110 l (j : Int)).f0 ≤ (rd_T110 l (j : Int)).f1 ∧ (rd_T110 l (j : Int)).f1 ≤ 5 ∧ 0 ≤ (rd_T110 l (j : Int)).f2 ∧ (rd_T110 l (j : Int)).f2 ≤ 999) ?_ ?_ 0 0 0 (Nat.zero_le _) ⟨rfl, by omega, fun j hj => absurd hj (by omega)⟩
  · rintro s _ i hi ⟨rfl, hs0, hI⟩ ih
    have h1 : (i : Int) < (l.length : Int) := by omega
    have e0 := wrap_up hi (by omega)
    by_cases c0 : (rd_T110 l i).f0 = s
    · subst c0
      by_cases c1 : (rd_T110 l i).f0 ≤ (rd_T110 l i).f1 <;> by_cases c2 : (rd_T110 l i).f1 ≤ 5 <;> by_cases c3 : 0 ≤ (rd_T110 l i).f2 <;> by_cases c4 : (rd_T110 l i).f2 ≤ 999
      all_goals first
        | (refine ⟨false, Ev.succ ?_, Ev.succ ?_, fun h => nomatch h⟩ <;> (simp only [spec_IsIndex.l0, impl_IsIndex.l0, spec_l1In.f, impl_in.f, h1, c1, c2, c3, c4, Int.natCast_nonneg, ge_iff_le, decide_true, decide_false, if_true, if_false, Option.bind_some, Bool.false_eq_true]; exact Ev.now _))
        | (obtain ⟨r, hs, ht, hR⟩ := ih (wrap64 ((rd_T110 l i).f1 + 1)) _ ⟨rfl, by unfold wrap64; omega, fun j hj => if hh : j < i then hI j hh else by obtain rfl : j = i := (by omega); exact ⟨hs0, c1, c2, c3, c4⟩⟩
           refine ⟨r, Ev.succ ?_, Ev.succ ?_, hR⟩ <;> (simp only [spec_IsIndex.l0, impl_IsIndex.l0, spec_l1In.f, impl_in.f, h1, c1, c2, c3, c4, e0, Int.natCast_nonneg, ge_iff_le, decide_true, decide_false, if_true, if_false, Option.bind_some, Bool.false_eq_true]; assumption))
    · refine ⟨false, Ev.succ ?_, Ev.succ ?_, fun h => nomatch h⟩ <;> (simp only [spec_IsIndex.l0, impl_IsIndex.l0, h1, c0, Int.natCast_nonneg, if_true, if_false]; exact Ev.now _)
  · rintro s _ ⟨rfl, _, hI⟩
    refine ⟨s == 6, Ev.succ ?_, Ev.succ ?_, fun _ => hI⟩ <;> (simp [spec_IsIndex.l0, impl_IsIndex.l0]; exact Ev.now _)
theorem both_MarkIndex (l : List S110) (a b : Int) (hl : l.length ≤ 1048576) : ∃ r, Ev (fun k => spec_MarkIndex.f k l a b) r ∧ Ev (fun k => impl_MarkIndex.f k l a b) r ∧ r.length ≤ l.length := by
  obtain ⟨ok, eS, eI, hI⟩ := both_IsIndex2 l hl
  have hcap : ([] : List S110).length + l.length < 5864062014805 := by simp; omega
  have hcopy : spec_l16Copy.f l = some l := by simp only [spec_l16Copy.f, Option.bind_some, hcap, if_true, List.nil_append]
  have hclone : impl_IndexNode.f l = some l := by simp only [impl_IndexNode.f, Option.bind_some, hcap, if_true, List.nil_append]
  -- what the model's loop begins with
  have stop : ∀ ys i, Ev (fun k => spec_MarkIndex.j1 k l a b ys (i : Int) false) ys := fun ys i => Ev.succ (by simp only [spec_MarkIndex.j1, Bool.false_eq_true, if_false]; exact Ev.now _)
  have last : ∀ ys : List S110, ys.length = l.length → Ev (fun k => spec_MarkIndex.l0 k l a b ys (l.length : Int)) ys := by
    intro ys hy
    have h1 : ¬ ((l.length : Int) < (ys.length : Int)) := by omega
    apply Ev.succ
    simp only [spec_MarkIndex.l0, h1, if_false]; exact stop ys _
  by_cases hg : ok = true ∧ (decide (0 ≤ b) && decide (b ≤ 999)) = true
  rotate_left 1
  · refine ⟨l, ?_, ?_, Nat.le_refl _⟩
    · unfold spec_MarkIndex.f
      simp only [hcopy, Option.bind_some]
      show Ev (fun k => spec_MarkIndex.l0 k l a b l ((0 : Nat) : Int)) l
      apply Ev.succ
      by_cases h0 : ((0 : Nat) : Int) < (l.length : Int)
      · simp only [spec_MarkIndex.l0, h0, if_true]
        refine Ev.bind eS ?_
        by_cases hk : ok = true
        · have hb : (decide (0 ≤ b) && decide (b ≤ 999)) = false := by
            cases hx : (decide (0 ≤ b) && decide (b ≤ 999))
            · rfl
            · exact absurd ⟨hk, hx⟩ hg
          simp only [hk, if_true, l1In_eq, hb, Option.bind_some]; exact stop l _
        · simp only [hk, if_false]; exact stop l _
      · simp only [spec_MarkIndex.l0, h0, if_false]; exact stop l _
    · unfold impl_MarkIndex.f
      simp only [hclone, Option.bind_some]
      refine Ev.bind eI ?_
      have jT : Ev (fun k => impl_MarkIndex.j0 k a b l true) l := Ev.succ (by simp only [impl_MarkIndex.j0, if_true]; exact Ev.now _)
      by_cases hk : ok = true
      · have hb : (decide (0 ≤ b) && decide (b ≤ 999)) = false := by
          cases hx : (decide (0 ≤ b) && decide (b ≤ 999))
          · rfl
          · exact absurd ⟨hk, hx⟩ hg
        simp only [hk, if_true, impl_isKey.f, in_eq, hb, Option.bind_some, Bool.not_false]
        cases (decide (0 ≤ a) && decide (a ≤ 5))
        · simp only [Bool.false_eq_true, if_false]; exact jT
        · simp only [if_true]; exact jT
      · simp only [hk, if_false]; exact jT
  obtain ⟨rfl, hb⟩ := hg
  have hI := hI rfl
  -- one round of the model's loop
  have round : ∀ (ys : List S110) (i : Nat) (r : List S110), i < ys.length →
      Ev (fun k => spec_MarkIndex.l0 k l a b (if (decide ((rd_T110 ys (i : Int)).f0 ≤ a) && decide (a ≤ (rd_T110 ys (i : Int)).f1)) = true then ys.set i ⟨(rd_T110 ys (i : Int)).f0, (rd_T110 ys (i : Int)).f1, mx (rd_T110 ys (i : Int)).f2 b⟩ else ys) (wrap64 ((i : Int) + 1))) r →
      Ev (fun k => spec_MarkIndex.l0 k l a b ys (i : Int)) r := by
    intro ys i r hi h
    have h1 : (i : Int) < (ys.length : Int) := by omega
    apply Ev.succ
    simp only [spec_MarkIndex.l0, h1, if_true]
    refine Ev.bind eS ?_
    simp only [if_true, l1In_eq, hb, Option.bind_some]
    apply Ev.succ
    simp only [spec_MarkIndex.j1, h1, l1In_eq, Int.natCast_nonneg, if_true, Option.bind_some, Int.toNat_natCast]
    cases hc : (decide ((rd_T110 ys (i : Int)).f0 ≤ a) && decide (a ≤ (rd_T110 ys (i : Int)).f1))
    · rw [hc] at h
      simpa only [Bool.false_eq_true, if_false] using h
    · rw [hc] at h
      simpa only [if_true] using h
  by_cases ha : (decide (0 ≤ a) && decide (a ≤ 5)) = true
  · have h : ∃ r, Ev (fun k => spec_MarkIndex.l0 k l a b l ((0 : Nat) : Int)) r ∧ Ev (fun k => impl_MarkIndex.l0 k a b l (l.length : Int) ((0 : Nat) : Int)) r ∧ r.length = l.length := by
      refine ev_both (σ := List S110) (τ := List S110) (fun ys i k => spec_MarkIndex.l0 k l a b ys (i : Int)) (fun ys i k => impl_MarkIndex.l0 k a b ys (l.length : Int) (i : Int)) l.length (fun s t _ => s = t ∧ s.length = l.length) (fun r => r.length = l.length) ?_ ?_ l l 0 (Nat.zero_le _) ⟨rfl, rfl⟩
      · rintro ys _ i hi ⟨rfl, hlen⟩ ih
        have h1 : (i : Int) < (l.length : Int) := by omega
        have h2 : (i : Int) < (ys.length : Int) := by omega
        have e0 := wrap_up hi (by omega)
        obtain ⟨r, hs, ht, hr⟩ := ih (if (decide ((rd_T110 ys (i : Int)).f0 ≤ a) && decide (a ≤ (rd_T110 ys (i : Int)).f1)) = true then ys.set i ⟨(rd_T110 ys (i : Int)).f0, (rd_T110 ys (i : Int)).f1, mx (rd_T110 ys (i : Int)).f2 b⟩ else ys) _ ⟨rfl, by split <;> simp [hlen]⟩
        refine ⟨r, round ys i r (by omega) (by rw [e0]; exact hs), Ev.succ ?_, hr⟩
        simp only [impl_MarkIndex.l0, h1, h2, in_eq, e0, Int.natCast_nonneg, if_true, Option.bind_some, Int.toNat_natCast]
        cases hc : (decide ((rd_T110 ys (i : Int)).f0 ≤ a) && decide (a ≤ (rd_T110 ys (i : Int)).f1))
        · rw [hc] at ht
          simpa only [Bool.false_eq_true, if_false] using ht
        · rw [hc] at ht
          simpa only [if_true] using ht
      · rintro ys _ ⟨rfl, hlen⟩
        refine ⟨ys, last ys hlen, Ev.succ ?_, hlen⟩
        simp only [impl_MarkIndex.l0, Int.lt_irrefl, if_false]; exact Ev.now _
    obtain ⟨r, h1, h2, h3⟩ := h
    refine ⟨r, ?_, ?_, by omega⟩
    · unfold spec_MarkIndex.f
      simp only [hcopy, Option.bind_some]; exact h1
    · unfold impl_MarkIndex.f
      simp only [hclone, Option.bind_some]
      refine Ev.bind eI ?_
      simp only [if_true, impl_isKey.f, in_eq, ha, hb, Option.bind_some, Bool.not_true]
      apply Ev.succ
      simp only [impl_MarkIndex.j0, Bool.false_eq_true, if_false]; exact h2
  · have haf : (decide (0 ≤ a) && decide (a ≤ 5)) = false := by simpa using ha
    refine ⟨l, ?_, ?_, Nat.le_refl _⟩
    · unfold spec_MarkIndex.f
      simp only [hcopy, Option.bind_some]
      refine ev_up (σ := Unit) (fun _ i k => spec_MarkIndex.l0 k l a b l (i : Int)) l.length (fun _ _ => True) (fun _ _ => l) ?_ ?_ () 0 (Nat.zero_le _) trivial
      · intro _ i hi _ ih
        have e0 := wrap_up hi (by omega)
        obtain ⟨g0, g1, g2, _⟩ := hI i hi
        have hc : (decide ((rd_T110 l (i : Int)).f0 ≤ a) && decide (a ≤ (rd_T110 l (i : Int)).f1)) = false := by
          cases hx : (decide ((rd_T110 l (i : Int)).f0 ≤ a) && decide (a ≤ (rd_T110 l (i : Int)).f1))
          · rfl
          · simp only [Bool.and_eq_true, decide_eq_true_eq] at hx
            exact absurd (by simp only [Bool.and_eq_true, decide_eq_true_eq]; omega) ha
        exact round l i l hi (by rw [hc, e0]; simp only [Bool.false_eq_true, if_false]; exact ih () trivial)
      · intro _ _
        exact last l rfl
    · unfold impl_MarkIndex.f
      simp only [hclone, Option.bind_some]
      refine Ev.bind eI ?_
      simp only [if_true, impl_isKey.f, in_eq, haf, Option.bind_some, Bool.false_eq_true, if_false]
      apply Ev.succ
      simp only [impl_MarkIndex.j0, if_true]; exact Ev.now _
theorem FnExactMarkIndex : ∀ (x0 : List (S112)) (x1 : Int) (x2 : Int), (okRow PFnExactMarkIndex.g112) x0 → (okInt .i64) x1 → (okInt .i64) x2 → ∃ k, laws_FnExactMarkIndex.f k x0 x1 x2 = some true := by
  intro l a b hl _ _
  have hm : l.length ≤ 9223372036854775807 := by have := hl.1; simp only [maxLen] at this; omega
  apply Ev.rounds
  unfold laws_FnExactMarkIndex.f
  simp only [sz_IndexNodeS l 1048576 (by omega) (by omega) hm, Option.bind_some]
  by_cases h : (1048576 : Int) < l.length
  · simp only [h, if_true]
    exact Ev.some rfl
  · have hs : l.length ≤ 1048576 := by omega
    have h0 : ¬ ((1048576 : Int) - l.length < 0) := by omega
    simp only [h, h0, if_false]
    obtain ⟨r, e1, e2, hr⟩ := both_MarkIndex (l.map cvIndexNode) a b (by simpa using hs)
    have hr' : r.length ≤ 1048576 := by simp at hr; omega
    clear hr
    refine Ev.bind (ev_toIndexNodeS l hs) (Ev.bind e1 (Ev.bind (ev_toIndexNodeS l hs) (Ev.bind e2 (Ev.bind (ev_eqIndexNodeS r (by omega)) ?_))))
    simp only [if_true]
    refine Ev.bind (ev_toIndexNodeS l hs) (Ev.bind (ev_eqIndexNodeS _ (by simpa using hm)) ?_)
    simp only [if_true]
    refine Ev.bind (ev_markIndexNodeS _ (by simp; omega)) ?_
    have hx : ¬ ((1 : Int) + 3 * ((l.map cvIndexNode).length : Int) < 0) := by omega
    simp only [hx, if_false]
    refine Ev.bind (ev_eqIndexNodeS r (by omega)) ?_
    simp only [Bool.not_true]
    apply Ev.succ
    simp only [laws_FnExactMarkIndex.j0, Bool.false_eq_true, if_false]
    refine Ev.bind (ev_markIndexNodeS r (by omega)) (Ev.bind (ev_heldIndexNodeS _ (by omega)) ?_)
    have hy : ¬ ((1 : Int) + 3 * (r.length : Int) < 0) := by omega
    simp only [hy, if_false, if_true]
    refine Ev.bind (ev_toIndexNodeS l hs) (Ev.bind e2 (Ev.bind (ev_eqIndexNodeS r (by omega)) ?_))
    simp only [if_true]
    refine Ev.bind (ev_heldIndexNodeS _ (by omega)) ?_
    simp only [hy, if_false, if_true]
    exact Ev.some rfl

end Go.Proofs.Ytaopeedfmhmfgaa.Pure
