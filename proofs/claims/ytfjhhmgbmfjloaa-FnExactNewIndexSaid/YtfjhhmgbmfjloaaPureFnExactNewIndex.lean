/- The plain statement of FnExactNewIndex: both functions give the same one node, and marks in the result are held. No condition. -/
import Derived.Test.YtfjhhmgbmfjloaaPFnExactNewIndexx2
import Derived.Test.YtfjhhmgbmfjloaaPlain
namespace Go.Proofs.Ytfjhhmgbmfjloaa.Pure
open Go.RowKit Go.Proofs.Ytfjhhmgbmfjloaa.PFnExactNewIndex Go.Proofs.YtfjhhmgbmfjloaaW.PrintWords Go.Proofs.YtfjhhmgbmfjloaaW.PrintLast Go.Proofs.Ytfjhhmgbmfjloaa.Plain
set_option linter.unusedVariables false
set_option linter.unusedSimpArgs false

theorem ev_eqIndexNodeS (l : List S83) (hl : l.length ≤ 9223372036854775807) : Ev (fun k => laws_eqIndexNodeS.f k l l) true := by
  have h : Ev (fun k => laws_eqIndexNodeS.l0 k l l ((0 : Nat) : Int)) true := by
    refine ev_up (σ := Unit) (fun _ i k => laws_eqIndexNodeS.l0 k l l (i : Int)) l.length (fun _ _ => True) (fun _ _ => true) ?_ ?_ () 0 (Nat.zero_le _) trivial
    · intro ys i hi hI ih
      apply Ev.succ
      have h1 : (i : Int) < (l.length : Int) := by omega
      simp only [laws_eqIndexNodeS.l0, laws_eqIndexNode.f, Option.bind_some, h1, Int.natCast_nonneg, if_true, wrap_up hi hl]
      exact ih () trivial
    · intro ys hI
      apply Ev.succ
      simp only [laws_eqIndexNodeS.l0, Int.lt_irrefl, if_false]
      exact Ev.now _
  unfold laws_eqIndexNodeS.f
  simp only [if_true]
  exact h

def mkIndexNode : Int → S83 := (fun a : Int => (⟨a, a + 1, a + 2⟩ : S83))
theorem ev_markIndexNodeS (l : List S83) (hl : l.length ≤ 4194304) : Ev (fun k => laws_markIndexNodeS.f k l 1) (1 + 3 * (l.length : Int), markL mkIndexNode 3 l.length 1) := by
  have h : Ev (fun k => laws_markIndexNodeS.l0 k l 1 ((0 : Nat) : Int)) (1 + 3 * (l.length : Int), markL mkIndexNode 3 l.length 1) := by
    refine ev_up (σ := List S83 × Int) (fun s i k => laws_markIndexNodeS.l0 k s.1 s.2 (i : Int)) l.length (fun s i => Filled (markL mkIndexNode 3 l.length 1) s.1 i ∧ s.2 = 1 + 3 * (i : Int)) (fun _ _ => (1 + 3 * (l.length : Int), markL mkIndexNode 3 l.length 1)) ?_ ?_ (l, 1) 0 (Nat.zero_le _) ⟨Filled.start _ _ (by simp [markL_length]), by simp⟩
    · rintro ⟨ys, a⟩ i hi ⟨hI, ha⟩ ih
      apply Ev.succ
      dsimp only at ha hI ⊢
      have hly : ys.length = l.length := by have := hI.1; simpa [markL_length] using this
      have h1 : (i : Int) < (ys.length : Int) := by omega
      have hiy : i < ys.length := by omega
      have w0 : wrap64 (a + 1) = a + 1 := wrap_in (by omega) (by omega)
      have w1 : wrap64 (a + 2) = a + 2 := wrap_in (by omega) (by omega)
      have w2 : wrap64 (a + 3) = a + 3 := wrap_in (by omega) (by omega)
      have hr := ih (ys.set i (mkIndexNode a), a + 3) ⟨hI.step (by simpa [markL_length] using hi) (by rw [markL_get, ha]; rfl), by dsimp only; omega⟩
      dsimp only at hr
      simp only [laws_markIndexNodeS.l0, Option.bind_some, h1, Int.natCast_nonneg, if_true, Int.toNat_natCast, wrap_up hi (by omega), w0, w1, w2, show a + 1 + 1 = a + 2 from by omega, show a + 2 + 1 = a + 3 from by omega]
      simpa [mkIndexNode, rd_T83, hiy] using hr
    · rintro ⟨ys, a⟩ ⟨hI, ha⟩
      apply Ev.succ
      dsimp only at ha hI ⊢
      have hly : ys.length = l.length := by have := hI.1; simpa [markL_length] using this
      have h1 : ¬ ((l.length : Int) < (ys.length : Int)) := by omega
      simp only [laws_markIndexNodeS.l0, h1, if_false]
      have hd : ys = markL mkIndexNode 3 l.length 1 := Filled.done (by rw [markL_length]; exact hI)
      exact Ev.some (by rw [ha, hd])
  exact h
theorem ev_heldIndexNodeS (n : Nat) (hn : n ≤ 4194304) : Ev (fun k => laws_heldIndexNodeS.f k (markL mkIndexNode 3 n 1) 1) (1 + 3 * (n : Int)) := by
  have h : Ev (fun k => laws_heldIndexNodeS.l0 k (markL mkIndexNode 3 n 1) 1 ((0 : Nat) : Int)) (1 + 3 * (n : Int)) := by
    refine ev_up (σ := Int) (fun a i k => laws_heldIndexNodeS.l0 k (markL mkIndexNode 3 n 1) a (i : Int)) n (fun a i => a = 1 + 3 * (i : Int)) (fun _ _ => 1 + 3 * (n : Int)) ?_ ?_ 1 0 (Nat.zero_le _) (by simp)
    · intro a i hi ha ih
      apply Ev.succ
      have h1 : (i : Int) < ((markL mkIndexNode 3 n 1).length : Int) := by rw [markL_length]; omega
      have hiy : i < (markL mkIndexNode 3 n 1).length := by rw [markL_length]; omega
      have hg : (markL mkIndexNode 3 n 1)[i] = mkIndexNode a := by rw [markL_get, ha]; rfl
      have w0 : wrap64 (a + 1) = a + 1 := wrap_in (by omega) (by omega)
      have w1 : wrap64 (a + 2) = a + 2 := wrap_in (by omega) (by omega)
      have w2 : wrap64 (a + 3) = a + 3 := wrap_in (by omega) (by omega)
      have hr := ih (a + 3) (by omega)
      have hrd : rd_T83 (markL mkIndexNode 3 n 1) (i : Int) = mkIndexNode a := by rw [← hg]; simp [rd_T83, hiy]
      simp only [laws_heldIndexNodeS.l0, h1, Int.natCast_nonneg, if_true, hrd, wrap_up hi (by omega), w0, w1, w2, show a + 1 + 1 = a + 2 from by omega, show a + 2 + 1 = a + 3 from by omega]
      simpa [mkIndexNode] using hr
    · intro a ha
      apply Ev.succ
      have h1 : ¬ ((n : Int) < ((markL mkIndexNode 3 n 1).length : Int)) := by rw [markL_length]; omega
      simp only [laws_heldIndexNodeS.l0, h1, if_false]
      exact Ev.some ha
  exact h


theorem FnExactNewIndex : laws_FnExactNewIndex.Pure := by
  apply Ev.rounds (r := true)
  unfold laws_FnExactNewIndex.f spec_NewIndex.f impl_NewIndex.f
  simp only [Option.bind_some]
  refine Ev.bind (ev_eqIndexNodeS _ (by simp)) ?_
  simp only [if_true]
  refine Ev.bind (ev_markIndexNodeS _ (by simp)) ?_
  refine Ev.bind (ev_heldIndexNodeS _ (by simp)) ?_
  simp only [List.length_singleton, Int.reduceMul, Int.reduceAdd, Int.reduceLT, if_false, if_true, Int.natCast_one]
  refine Ev.bind (ev_eqIndexNodeS _ (by simp)) ?_
  simp only [if_true]
  refine Ev.bind (ev_heldIndexNodeS _ (by simp)) ?_
  exact Ev.some (by simp)

end Go.Proofs.Ytfjhhmgbmfjloaa.Pure
