/- The plain statement of FnExactIsProgram: the two checks of a program keep step, so they answer alike. Condition: the list's length is at most maxLen. -/
import Derived.Test.YtaopeedfmhmfgaaGoodFnExactIsProgram
import Derived.Test.YtaopeedfmhmfgaaPlain
namespace Go.Proofs.Ytaopeedfmhmfgaa.Pure
open Go.RowKit Go.Proofs.Ytaopeedfmhmfgaa.PFnExactIsProgram Go.Proofs.YtaopeedfmhmfgaaW.PrintWords Go.Proofs.YtaopeedfmhmfgaaW.PrintLast Go.Proofs.Ytaopeedfmhmfgaa.OpenK Go.Proofs.Ytaopeedfmhmfgaa.Plain
set_option linter.unusedVariables false
set_option linter.unusedSimpArgs false

theorem sz_OpS (l : List S105) (a : Int) (h0 : 0 ≤ a) (h1 : a ≤ 1048576) (hl : l.length ≤ 9223372036854775807) : laws_szOpS.f l a = some (if a < l.length then -1 else a - l.length) := by
  unfold laws_szOpS.f
  rw [wrap_in (by omega) (by omega)]
  by_cases h : a < l.length
  · rw [if_pos (by omega), if_pos h]
  · rw [if_neg (by omega), if_neg h]

theorem szx_Op (l : List S105) (a : Int) (h0 : 0 ≤ a) (h1 : a ≤ 1048576) (hl : l.length ≤ 9223372036854775807) : ∃ r, Ev (fun _ => laws_szOpS.f l a) r ∧ r ≤ a ∧ (0 ≤ r → l.length ≤ 1048576) := by
  rw [sz_OpS l a h0 h1 hl]
  refine ⟨_, Ev.now _, ?_, ?_⟩ <;> split <;> omega

def cvOp (x : S105) : S101 := ⟨x.f0, x.f1, x.f2, x.f3, x.f4, x.f5⟩
theorem ev_toOpS (l : List S105) (hl : l.length ≤ 1048576) : Ev (fun k => laws_toOpS.f k l) (l.map cvOp) := by
  have h : Ev (fun k => laws_toOpS.l0 k l (List.replicate l.length z101) ((0 : Nat) : Int)) (l.map cvOp) := by
    refine ev_up (σ := List S101) (fun ys i k => laws_toOpS.l0 k l ys (i : Int)) l.length (fun ys i => Filled (l.map cvOp) ys i) (fun _ _ => l.map cvOp) ?_ ?_ (List.replicate l.length z101) 0 (Nat.zero_le _) (Filled.start _ _ (by simp))
    · intro ys i hi hI ih
      apply Ev.succ
      have h1 : (i : Int) < (l.length : Int) := by omega
      have h2 : (i : Int) < (ys.length : Int) := by have := hI.1; simp at this; omega
      simp only [laws_toOpS.l0, laws_toOp.f, Option.bind_some, h1, h2, Int.natCast_nonneg, if_true, Int.toNat_natCast, wrap_up hi (by omega)]
      exact ih _ (hI.step (by simpa using hi) (by simp [cvOp, rd_T105, hi]))
    · intro ys hI
      apply Ev.succ
      simp only [laws_toOpS.l0, Int.lt_irrefl, if_false]
      exact Ev.some (Filled.done (by simpa using hI))
  unfold laws_toOpS.f
  have h3 : ((l.length : Int) : Int).toNat ≤ 5864062014805 := by omega
  simp only [Int.natCast_nonneg, if_true, h3]
  simpa using h

theorem ev_eqOpS (l : List S101) (hl : l.length ≤ 9223372036854775807) : Ev (fun k => laws_eqOpS.f k l l) true := by
  have h : Ev (fun k => laws_eqOpS.l0 k l l ((0 : Nat) : Int)) true := by
    refine ev_up (σ := Unit) (fun _ i k => laws_eqOpS.l0 k l l (i : Int)) l.length (fun _ _ => True) (fun _ _ => true) ?_ ?_ () 0 (Nat.zero_le _) trivial
    · intro ys i hi hI ih
      apply Ev.succ
      have h1 : (i : Int) < (l.length : Int) := by omega
      simp only [laws_eqOpS.l0, laws_eqOp.f, Option.bind_some, h1, Int.natCast_nonneg, if_true, wrap_up hi hl]
      exact ih () trivial
    · intro ys hI
      apply Ev.succ
      simp only [laws_eqOpS.l0, Int.lt_irrefl, if_false]
      exact Ev.now _
  unfold laws_eqOpS.f
  simp only [if_true]
  exact h


theorem l1In_eq (a b c : Int) : spec_l1In.f a b c = some (decide (b ≤ a) && decide (a ≤ c)) := by
  by_cases h : b ≤ a <;> simp [spec_l1In.f, h]
theorem in_eq (a b c : Int) : impl_in.f a b c = some (decide (b ≤ a) && decide (a ≤ c)) := by
  by_cases h : b ≤ a <;> simp [impl_in.f, h]
set_option maxHeartbeats 8000000 in
theorem both_IsValidOp3 (a0 a1 a2 a3 a4 a5 : Int) : ∃ b, spec_IsValidOp.f 3 a0 a1 a2 a3 a4 a5 = some b ∧ impl_IsValidOp.f 3 a0 a1 a2 a3 a4 a5 = some b := by
  by_cases c1 : a0 = 1
  · subst c1
    by_cases h3 : a3 = 0 <;> by_cases h4 : a4 = 0 <;> by_cases h5 : a5 = 0 <;> by_cases h1 : 1 ≤ a1 <;> by_cases h1' : a1 ≤ 9 <;> by_cases h2 : 1 ≤ a2 <;> by_cases h2' : a2 ≤ 4 <;>
      simp [spec_IsValidOp.f, impl_IsValidOp.f, spec_IsValidOp.j1, spec_IsValidOp.j2, impl_IsValidOp.j0, impl_isID.f, impl_isScheme.f, l1In_eq, in_eq, h3, h4, h5, h1, h1', h2, h2', eq_comm (a := (0 : Int))]
  by_cases c2 : a0 = 2
  · subst c2
    by_cases h3 : a2 = 0 <;> by_cases h4 : a4 = 0 <;> by_cases h5 : a5 = 0 <;> by_cases h1 : 1 ≤ a1 <;> by_cases h1' : a1 ≤ 9 <;> by_cases h2 : 0 ≤ a3 <;> by_cases h2' : a3 ≤ 5 <;>
      simp [spec_IsValidOp.f, impl_IsValidOp.f, spec_IsValidOp.j1, spec_IsValidOp.j2, impl_IsValidOp.j0, impl_isID.f, impl_isKey.f, l1In_eq, in_eq, h3, h4, h5, h1, h1', h2, h2', eq_comm (a := (0 : Int))]
  by_cases c3 : a0 = 3
  · subst c3
    by_cases h3 : a2 = 0 <;> by_cases h4 : a4 = 0 <;> by_cases h1 : 1 ≤ a1 <;> by_cases h1' : a1 ≤ 9 <;> by_cases h2 : 0 ≤ a3 <;> by_cases h2' : a3 ≤ 5 <;> by_cases h6 : -1 ≤ a5 <;> by_cases h6' : a5 ≤ 99 <;>
      simp [spec_IsValidOp.f, impl_IsValidOp.f, spec_IsValidOp.j1, spec_IsValidOp.j2, impl_IsValidOp.j0, impl_isID.f, impl_isKey.f, impl_isValue.f, l1In_eq, in_eq, h3, h4, h1, h1', h2, h2', h6, h6', eq_comm (a := (0 : Int))]
  by_cases c4 : a0 = 4
  · subst c4
    by_cases h3 : a2 = 0 <;> by_cases h5 : a5 = 0 <;> by_cases h1 : 1 ≤ a1 <;> by_cases h1' : a1 ≤ 9 <;> by_cases h2 : 0 ≤ a3 <;> by_cases h2' : a3 ≤ 5 <;> by_cases h6 : a3 ≤ a4 <;> by_cases h6' : a4 ≤ 5 <;>
      simp [spec_IsValidOp.f, impl_IsValidOp.f, spec_IsValidOp.j1, spec_IsValidOp.j2, impl_IsValidOp.j0, impl_isID.f, impl_isKey.f, l1In_eq, in_eq, h3, h5, h1, h1', h2, h2', h6, h6', eq_comm (a := (0 : Int))]
  by_cases c5 : a0 = 5
  · subst c5
    by_cases h2 : a2 = 0 <;> by_cases h3 : a3 = 0 <;> by_cases h4 : a4 = 0 <;> by_cases h5 : a5 = 0 <;> by_cases h1 : 1 ≤ a1 <;> by_cases h1' : a1 ≤ 9 <;>
      simp [spec_IsValidOp.f, impl_IsValidOp.f, spec_IsValidOp.j1, spec_IsValidOp.j2, spec_IsValidOp.j0, impl_IsValidOp.j0, impl_isID.f, impl_isKey.f, l1In_eq, in_eq, h2, h3, h4, h5, h1, h1', eq_comm (a := (0 : Int))]
  by_cases c6 : a0 = 6
  · subst c6
    by_cases h2 : a2 = 0 <;> by_cases h3 : a3 = 0 <;> by_cases h4 : a4 = 0 <;> by_cases h5 : a5 = 0 <;> by_cases h1 : 1 ≤ a1 <;> by_cases h1' : a1 ≤ 9 <;>
      simp [spec_IsValidOp.f, impl_IsValidOp.f, spec_IsValidOp.j1, spec_IsValidOp.j2, spec_IsValidOp.j0, impl_IsValidOp.j0, impl_isID.f, impl_isKey.f, l1In_eq, in_eq, h2, h3, h4, h5, h1, h1', eq_comm (a := (0 : Int))]
  · have hk : (decide (1 ≤ a0) && decide (a0 ≤ 6)) = false := by
      by_cases d1 : 1 ≤ a0 <;> by_cases d2 : a0 ≤ 6 <;> simp [d1, d2] <;> omega
    simp [spec_IsValidOp.f, impl_IsValidOp.f, spec_IsValidOp.j0, impl_IsValidOp.j0, in_eq, c1, c2, c3, c4, c5, c6, hk]
theorem both_IsValidOp (a0 a1 a2 a3 a4 a5 : Int) : ∃ b, Ev (fun k => spec_IsValidOp.f k a0 a1 a2 a3 a4 a5) b ∧ Ev (fun k => impl_IsValidOp.f k a0 a1 a2 a3 a4 a5) b := by
  obtain ⟨b, h1, h2⟩ := both_IsValidOp3 a0 a1 a2 a3 a4 a5
  exact ⟨b, Ev.of (spec_IsValidOp.mono _ _ _ _ _ _) h1, Ev.of (impl_IsValidOp.mono _ _ _ _ _ _) h2⟩
theorem both_IsProgram (l : List S101) (hl : l.length ≤ 1048576) : ∃ r, Ev (fun k => spec_IsProgram.f k l) r ∧ Ev (fun k => impl_IsProgram.f k l) r := by
  have h : ∃ x y, Ev (fun k => impl_IsProgram.l0 k l l (l.length : Int) ((0 : Nat) : Int)) x ∧ Ev (fun k => spec_IsProgram.l0 k l ((0 : Nat) : Int)) y ∧ y = (x && (decide (2 ≤ (l.length : Int)) && decide ((l.length : Int) ≤ 12))) := by
    refine ev_two (σ := Unit) (τ := Unit) (fun _ i k => impl_IsProgram.l0 k l l (l.length : Int) (i : Int)) (fun _ i k => spec_IsProgram.l0 k l (i : Int)) l.length (fun _ _ _ => True) (fun x y => y = (x && (decide (2 ≤ (l.length : Int)) && decide ((l.length : Int) ≤ 12)))) ?_ ?_ () () 0 (Nat.zero_le _) trivial
    · intro _ _ i hi _ ih
      have h1 : (i : Int) < (l.length : Int) := by omega
      have h0 : (0 : Int) < (l.length : Int) := by omega
      have e0 := wrap_up hi (by omega)
      obtain ⟨x, y, hx, hy, rfl⟩ := ih () () trivial
      have iT : Ev (fun k => impl_IsProgram.j2 k l (i : Int) l (l.length : Int) true) false := Ev.succ (by simp only [impl_IsProgram.j2, if_true]; exact Ev.now _)
      have sT : Ev (fun k => spec_IsProgram.j2 k l (i : Int) true) false := Ev.succ (by simp only [spec_IsProgram.j2, if_true]; exact Ev.now _)
      have iF : Ev (fun k => impl_IsProgram.j2 k l (i : Int) l (l.length : Int) false) x := Ev.succ (by simp only [impl_IsProgram.j2, Bool.false_eq_true, if_false, e0]; exact hx)
      have sF : Ev (fun k => spec_IsProgram.j2 k l (i : Int) false) (x && (decide (2 ≤ (l.length : Int)) && decide ((l.length : Int) ≤ 12))) := Ev.succ (by simp only [spec_IsProgram.j2, Bool.false_eq_true, if_false, e0]; exact hy)
      obtain ⟨b, eS, eI⟩ := both_IsValidOp (rd_T101 l (i : Int)).f0 (rd_T101 l (i : Int)).f1 (rd_T101 l (i : Int)).f2 (rd_T101 l (i : Int)).f3 (rd_T101 l (i : Int)).f4 (rd_T101 l (i : Int)).f5
      have j : ∀ lb : Bool, ∃ x y, Ev (fun k => impl_IsProgram.j1 k l (i : Int) lb l (l.length : Int) (rd_T101 l (i : Int)).f0 (rd_T101 l (i : Int)).f1 (rd_T101 l (i : Int)).f2 (rd_T101 l (i : Int)).f3 (rd_T101 l (i : Int)).f4 (rd_T101 l (i : Int)).f5) x ∧ Ev (fun k => spec_IsProgram.j1 k l (i : Int) lb) y ∧ y = (x && (decide (2 ≤ (l.length : Int)) && decide ((l.length : Int) ≤ 12))) := by
        intro lb
        cases b
        · refine ⟨false, false, Ev.succ ?_, Ev.succ ?_, by simp⟩
          · simp only [impl_IsProgram.j1]
            refine Ev.bind eI ?_
            simp only [Bool.false_eq_true, if_false]; exact iT
          · simp only [spec_IsProgram.j1, h1, Int.natCast_nonneg, if_true]
            refine Ev.bind eS ?_
            simp only [Bool.false_eq_true, if_false]; exact sT
        · by_cases c : (rd_T101 l (i : Int)).f1 = (rd_T101 l 0).f1
          rotate_left 1
          · refine ⟨false, false, Ev.succ ?_, Ev.succ ?_, by simp⟩
            · simp only [impl_IsProgram.j1]
              refine Ev.bind eI ?_
              simp only [h0, c, if_true, if_false]; exact iT
            · simp only [spec_IsProgram.j1, h1, Int.natCast_nonneg, if_true]
              refine Ev.bind eS ?_
              simp only [h0, c, if_true, if_false]; exact sT
          by_cases d : (((rd_T101 l (i : Int)).f0 == 1) != ((i : Int) == 0)) = true
          · refine ⟨false, false, Ev.succ ?_, Ev.succ ?_, by simp⟩
            · simp only [impl_IsProgram.j1]
              refine Ev.bind eI ?_
              simp only [h0, c, d, if_true]; exact iT
            · simp only [spec_IsProgram.j1, h1, Int.natCast_nonneg, if_true]
              refine Ev.bind eS ?_
              simp only [h0, c, d, if_true]; exact sT
          cases hb : (lb != ((i : Int) == wrap64 ((l.length : Int) - 1)))
          · refine ⟨x, _, Ev.succ ?_, Ev.succ ?_, rfl⟩
            · simp only [impl_IsProgram.j1]
              refine Ev.bind eI ?_
              simp only [h0, c, d, hb, if_true, if_false]; exact iF
            · simp only [spec_IsProgram.j1, h1, Int.natCast_nonneg, if_true]
              refine Ev.bind eS ?_
              simp only [h0, c, d, hb, if_true, if_false]; exact sF
          · refine ⟨false, false, Ev.succ ?_, Ev.succ ?_, by simp⟩
            · simp only [impl_IsProgram.j1]
              refine Ev.bind eI ?_
              simp only [h0, c, d, hb, if_true, if_false]; exact iT
            · simp only [spec_IsProgram.j1, h1, Int.natCast_nonneg, if_true]
              refine Ev.bind eS ?_
              simp only [h0, c, d, hb, if_true, if_false]; exact sT
      by_cases c5 : (rd_T101 l (i : Int)).f0 = 5
      · obtain ⟨x', y', g1, g2, g3⟩ := j true
        refine ⟨x', y', Ev.succ ?_, Ev.succ ?_, g3⟩
        · simp only [impl_IsProgram.l0, h1, c5, Int.natCast_nonneg, if_true]
          rw [c5] at g1; exact g1
        · simp only [spec_IsProgram.l0, h1, c5, Int.natCast_nonneg, if_true]; exact g2
      · obtain ⟨x', y', g1, g2, g3⟩ := j ((rd_T101 l (i : Int)).f0 == 6)
        refine ⟨x', y', Ev.succ ?_, Ev.succ ?_, g3⟩
        · simp only [impl_IsProgram.l0, h1, c5, Int.natCast_nonneg, if_true, if_false]; exact g1
        · simp only [spec_IsProgram.l0, h1, c5, Int.natCast_nonneg, if_true, if_false]; exact g2
    · intro _ _ _
      refine ⟨true, _, Ev.succ ?_, Ev.succ ?_, (Bool.true_and _).symm⟩
      · simp only [impl_IsProgram.l0, Int.lt_irrefl, if_false]; exact Ev.now _
      · simp only [spec_IsProgram.l0, Int.lt_irrefl, if_false, l1In_eq, Option.bind_some]; exact Ev.now _
  obtain ⟨x, y, hx, hy, rfl⟩ := h
  refine ⟨_, hy, ?_⟩
  unfold impl_IsProgram.f
  simp only [in_eq, Option.bind_some]
  cases (decide (2 ≤ (l.length : Int)) && decide ((l.length : Int) ≤ 12))
  · simp only [Bool.false_eq_true, if_false, Bool.and_false]; exact Ev.now _
  · simp only [if_true, Bool.and_true]; exact hx
theorem FnExactIsProgram : ∀ (x0 : List (S105)), (okRow PFnExactIsProgram.g105) x0 → ∃ k, laws_FnExactIsProgram.f k x0 = some true := by
  intro l hl
  have hm : l.length ≤ 9223372036854775807 := by have := hl.1; simp only [maxLen] at this; omega
  apply Ev.rounds
  unfold laws_FnExactIsProgram.f
  simp only [sz_OpS l 1048576 (by omega) (by omega) hm, Option.bind_some]
  by_cases h : (1048576 : Int) < l.length
  · simp only [h, if_true]
    exact Ev.some rfl
  · have hs : l.length ≤ 1048576 := by omega
    have h0 : ¬ ((1048576 : Int) - l.length < 0) := by omega
    simp only [h, h0, if_false]
    obtain ⟨r, e1, e2⟩ := both_IsProgram (l.map cvOp) (by simpa using hs)
    refine Ev.bind (ev_toOpS l hs) (Ev.bind e1 (Ev.bind (ev_toOpS l hs) (Ev.bind e2 ?_)))
    simp only [bne_self_eq_false, Bool.false_eq_true, if_false]
    refine Ev.bind (ev_toOpS l hs) (Ev.bind (ev_eqOpS _ (by simpa using hm)) ?_)
    exact Ev.some rfl

end Go.Proofs.Ytaopeedfmhmfgaa.Pure
