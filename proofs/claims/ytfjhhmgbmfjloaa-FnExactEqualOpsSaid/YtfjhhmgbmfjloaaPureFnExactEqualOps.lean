/- The plain statement of FnExactEqualOps: the two comparisons keep step, so they answer alike. Condition: the lists' lengths are at most maxLen. -/
import Derived.Test.YtfjhhmgbmfjloaaGoodFnExactEqualOps
import Derived.Test.YtfjhhmgbmfjloaaPlain
namespace Go.Proofs.Ytfjhhmgbmfjloaa.Pure
open Go.RowKit Go.Proofs.Ytfjhhmgbmfjloaa.PFnExactEqualOps Go.Proofs.YtfjhhmgbmfjloaaW.PrintWords Go.Proofs.YtfjhhmgbmfjloaaW.PrintLast Go.Proofs.Ytfjhhmgbmfjloaa.OpenK Go.Proofs.Ytfjhhmgbmfjloaa.Plain
set_option linter.unusedVariables false
set_option linter.unusedSimpArgs false

theorem sz_OpS (l : List S30) (a : Int) (h0 : 0 ≤ a) (h1 : a ≤ 1048576) (hl : l.length ≤ 9223372036854775807) : laws_szOpS.f l a = some (if a < l.length then -1 else a - l.length) := by
  unfold laws_szOpS.f
  rw [wrap_in (by omega) (by omega)]
  by_cases h : a < l.length
  · rw [if_pos (by omega), if_pos h]
  · rw [if_neg (by omega), if_neg h]

def cvOp (x : S30) : S32 := ⟨x.f0, x.f1, x.f2, x.f3, x.f4, x.f5⟩
theorem ev_toOpS (l : List S30) (hl : l.length ≤ 1048576) : Ev (fun k => laws_toOpS.f k l) (l.map cvOp) := by
  have h : Ev (fun k => laws_toOpS.l0 k l (List.replicate l.length z32) ((0 : Nat) : Int)) (l.map cvOp) := by
    refine ev_up (σ := List S32) (fun ys i k => laws_toOpS.l0 k l ys (i : Int)) l.length (fun ys i => Filled (l.map cvOp) ys i) (fun _ _ => l.map cvOp) ?_ ?_ (List.replicate l.length z32) 0 (Nat.zero_le _) (Filled.start _ _ (by simp))
    · intro ys i hi hI ih
      apply Ev.succ
      have h1 : (i : Int) < (l.length : Int) := by omega
      have h2 : (i : Int) < (ys.length : Int) := by have := hI.1; simp at this; omega
      simp only [laws_toOpS.l0, laws_toOp.f, Option.bind_some, h1, h2, Int.natCast_nonneg, if_true, Int.toNat_natCast, wrap_up hi (by omega)]
      exact ih _ (hI.step (by simpa using hi) (by simp [cvOp, rd_T30, hi]))
    · intro ys hI
      apply Ev.succ
      simp only [laws_toOpS.l0, Int.lt_irrefl, if_false]
      exact Ev.some (Filled.done (by simpa using hI))
  unfold laws_toOpS.f
  have h3 : ((l.length : Int) : Int).toNat ≤ 5864062014805 := by omega
  simp only [Int.natCast_nonneg, if_true, h3]
  simpa using h

theorem ev_eqOpS (l : List S32) (hl : l.length ≤ 9223372036854775807) : Ev (fun k => laws_eqOpS.f k l l) true := by
  have h : Ev (fun k => laws_eqOpS.l0 k l l ((0 : Nat) : Int)) true := by
    refine ev_up (σ := Unit) (fun _ i k => laws_eqOpS.l0 k l l (i : Int)) l.length (fun _ _ => True) (fun _ _ => true) ?_ ?_ () 0 (Nat.zero_le _) trivial
    · intro ys i hi hI ih
      apply Ev.succ
      have h1 : (i : Int) < (l.length : Int) := by omega
      simp only [laws_eqOpS.l0, laws_eqOp.f, Option.bind_some, h1, Int.natCast_nonneg, if_true, wrap_up hi hl]
      exact ih () trivial
    · intro ys hI
      apply Ev.succ
      simp only [laws_eqOpS.l0, Int.lt_irrefl, if_false]
      exact Ev.now _
  unfold laws_eqOpS.f
  simp only [if_true]
  exact h


theorem both_EqualOps (l m : List S32) (hl : l.length ≤ 1048576) : ∃ r, Ev (fun k => spec_EqualOps.f k l m) r ∧ Ev (fun k => impl_EqualOps.f k l m) r ∧ True := by
  have key : l.length = m.length → ∃ r, Ev (fun k => spec_EqualOps.l0 k l m ((0 : Nat) : Int)) r ∧ Ev (fun k => impl_Op.l0 k l m (l.length : Int) ((0 : Nat) : Int)) r ∧ True := by
    intro hlm
    refine ev_both (σ := Unit) (τ := Unit) (fun _ i k => spec_EqualOps.l0 k l m (i : Int)) (fun _ i k => impl_Op.l0 k l m (l.length : Int) (i : Int)) l.length (fun _ _ _ => True) (fun _ => True) ?_ ?_ () () 0 (Nat.zero_le _) trivial
    · intro _ _ i hi _ ih
      have h1 : (i : Int) < (l.length : Int) := by omega
      have h2 : (i : Int) < (m.length : Int) := by omega
      have e0 := wrap_up hi (by omega)
      obtain ⟨r, hs, ht, _⟩ := ih () () trivial
      generalize hc : (!((rd_T32 l i).f0 == (rd_T32 m i).f0) || (!((rd_T32 l i).f1 == (rd_T32 m i).f1) || (!((rd_T32 l i).f2 == (rd_T32 m i).f2) || (!((rd_T32 l i).f3 == (rd_T32 m i).f3) || (!((rd_T32 l i).f4 == (rd_T32 m i).f4) || (!((rd_T32 l i).f5 == (rd_T32 m i).f5))))))) = c
      cases c with
      | true => refine ⟨false, Ev.succ ?_, Ev.succ ?_, trivial⟩ <;> (simp only [spec_EqualOps.l0, impl_Op.l0, h1, h2, hc, Int.natCast_nonneg, if_true]; exact Ev.now _)
      | false => refine ⟨r, Ev.succ ?_, Ev.succ ?_, trivial⟩ <;> (simp only [spec_EqualOps.l0, impl_Op.l0, h1, h2, hc, e0, Int.natCast_nonneg, if_true, if_false, Bool.false_eq_true]; assumption)
    · intro _ _ _
      refine ⟨true, Ev.succ ?_, Ev.succ ?_, trivial⟩ <;> (simp [spec_EqualOps.l0, impl_Op.l0]; exact Ev.now _)
  by_cases h : l.length = m.length
  · obtain ⟨r, h1, h2, _⟩ := key h
    refine ⟨r, ?_, ?_, trivial⟩
    · unfold spec_EqualOps.f; simp only [h, if_true]; exact h1
    · unfold impl_EqualOps.f impl_Op.f; simp only [h, if_true]; exact Ev.bind (by simpa [h] using h2) (Ev.now _)
  · have hn : ¬ ((l.length : Int) = (m.length : Int)) := by omega
    refine ⟨false, ?_, ?_, trivial⟩
    · unfold spec_EqualOps.f; simp only [hn, if_false]; exact Ev.now _
    · unfold impl_EqualOps.f impl_Op.f; simp only [hn, if_false]; exact Ev.now _
theorem FnExactEqualOps : ∀ (x0 : List (S30)) (x1 : List (S30)), (okRow PFnExactEqualOps.g30) x0 → (okRow PFnExactEqualOps.g30) x1 → ∃ k, laws_FnExactEqualOps.f k x0 x1 = some true := by
  intro l m hl hm
  have hl' : l.length ≤ 9223372036854775807 := by have := hl.1; simp only [maxLen] at this; omega
  have hm' : m.length ≤ 9223372036854775807 := by have := hm.1; simp only [maxLen] at this; omega
  apply Ev.rounds
  unfold laws_FnExactEqualOps.f
  simp only [sz_OpS l 1048576 (by omega) (by omega) hl', Option.bind_some]
  by_cases h : (1048576 : Int) < l.length
  · simp only [h, if_true]
    exact Ev.some rfl
  · have hs : l.length ≤ 1048576 := by omega
    have h0 : ¬ ((1048576 : Int) - l.length < 0) := by omega
    simp only [h, h0, if_false]
    simp only [sz_OpS m (1048576 - l.length) (by omega) (by omega) hm', Option.bind_some]
    by_cases h' : (1048576 : Int) - l.length < m.length
    · simp only [h', if_true]
      exact Ev.some rfl
    · have hs' : m.length ≤ 1048576 := by omega
      have h0' : ¬ ((1048576 : Int) - l.length - m.length < 0) := by omega
      simp only [h', h0', if_false]
      obtain ⟨r, e1, e2, _⟩ := both_EqualOps (l.map cvOp) (m.map cvOp) (by simpa using hs)
      refine Ev.bind (ev_toOpS l hs) (Ev.bind (ev_toOpS m hs') (Ev.bind e1 (Ev.bind (ev_toOpS l hs) (Ev.bind (ev_toOpS m hs') (Ev.bind e2 ?_)))))
      simp only [bne_self_eq_false, Bool.false_eq_true, if_false]
      refine Ev.bind (ev_toOpS l hs) (Ev.bind (ev_eqOpS _ (by simpa using hl')) ?_)
      simp only [if_true]
      refine Ev.bind (ev_toOpS m hs') (Ev.bind (ev_eqOpS _ (by simpa using hm')) ?_)
      exact Ev.some rfl

end Go.Proofs.Ytfjhhmgbmfjloaa.Pure
