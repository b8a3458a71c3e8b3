/- The plain statement of FnExactNodesFor: both functions keep the same elements of the list, and marks in the result are held. Condition: the list's length is at most maxLen. -/
import Derived.Test.YtaopeedfmhmfgaaGoodFnExactNodesFor
import Derived.Test.YtaopeedfmhmfgaaPlain
namespace Go.Proofs.Ytaopeedfmhmfgaa.Pure
open Go.RowKit Go.Proofs.Ytaopeedfmhmfgaa.PFnExactNodesFor Go.Proofs.YtaopeedfmhmfgaaW.PrintWords Go.Proofs.YtaopeedfmhmfgaaW.PrintLast Go.Proofs.Ytaopeedfmhmfgaa.OpenK Go.Proofs.Ytaopeedfmhmfgaa.Plain
set_option linter.unusedVariables false
set_option linter.unusedSimpArgs false

theorem sz_IndexNodeS (l : List S112) (a : Int) (h0 : 0 ≤ a) (h1 : a ≤ 1048576) (hl : l.length ≤ 9223372036854775807) : laws_szIndexNodeS.f l a = some (if a < l.length then -1 else a - l.length) := by
  unfold laws_szIndexNodeS.f
  rw [wrap_in (by omega) (by omega)]
  by_cases h : a < l.length
  · rw [if_pos (by omega), if_pos h]
  · rw [if_neg (by omega), if_neg h]

theorem szx_IndexNode (l : List S112) (a : Int) (h0 : 0 ≤ a) (h1 : a ≤ 1048576) (hl : l.length ≤ 9223372036854775807) : ∃ r, Ev (fun _ => laws_szIndexNodeS.f l a) r ∧ r ≤ a ∧ (0 ≤ r → l.length ≤ 1048576) := by
  rw [sz_IndexNodeS l a h0 h1 hl]
  refine ⟨_, Ev.now _, ?_, ?_⟩ <;> split <;> omega

def cvIndexNode (x : S112) : S110 := ⟨x.f0, x.f1, x.f2⟩
theorem ev_toIndexNodeS (l : List S112) (hl : l.length ≤ 1048576) : Ev (fun k => laws_toIndexNodeS.f k l) (l.map cvIndexNode) := by
  have h : Ev (fun k => laws_toIndexNodeS.l0 k l (List.replicate l.length z110) ((0 : Nat) : Int)) (l.map cvIndexNode) := by
    refine ev_up (σ := List S110) (fun ys i k => laws_toIndexNodeS.l0 k l ys (i : Int)) l.length (fun ys i => Filled (l.map cvIndexNode) ys i) (fun _ _ => l.map cvIndexNode) ?_ ?_ (List.replicate l.length z110) 0 (Nat.zero_le _) (Filled.start _ _ (by simp))
    · intro ys i hi hI ih
      apply Ev.succ
      have h1 : (i : Int) < (l.length : Int) := by omega
      have h2 : (i : Int) < (ys.length : Int) := by have := hI.1; simp at this; omega
      simp only [laws_toIndexNodeS.l0, laws_toIndexNode.f, Option.bind_some, h1, h2, Int.natCast_nonneg, if_true, Int.toNat_natCast, wrap_up hi (by omega)]
      exact ih _ (hI.step (by simpa using hi) (by simp [cvIndexNode, rd_T112, hi]))
    · intro ys hI
      apply Ev.succ
      simp only [laws_toIndexNodeS.l0, Int.lt_irrefl, if_false]
      exact Ev.some (Filled.done (by simpa using hI))
  unfold laws_toIndexNodeS.f
  have h3 : ((l.length : Int) : Int).toNat ≤ 11728124029610 := by omega
  simp only [Int.natCast_nonneg, if_true, h3]
  simpa using h

theorem ev_eqIndexNodeS (l : List S110) (hl : l.length ≤ 9223372036854775807) : Ev (fun k => laws_eqIndexNodeS.f k l l) true := by
  have h : Ev (fun k => laws_eqIndexNodeS.l0 k l l ((0 : Nat) : Int)) true := by
    refine ev_up (σ := Unit) (fun _ i k => laws_eqIndexNodeS.l0 k l l (i : Int)) l.length (fun _ _ => True) (fun _ _ => true) ?_ ?_ () 0 (Nat.zero_le _) trivial
    · intro ys i hi hI ih
      apply Ev.succ
      have h1 : (i : Int) < (l.length : Int) := by omega
      simp only [laws_eqIndexNodeS.l0, laws_eqIndexNode.f, Option.bind_some, h1, Int.natCast_nonneg, if_true, wrap_up hi hl]
      exact ih () trivial
    · intro ys hI
      apply Ev.succ
      simp only [laws_eqIndexNodeS.l0, Int.lt_irrefl, if_false]
      exact Ev.now _
  unfold laws_eqIndexNodeS.f
  simp only [if_true]
  exact h

def mkIndexNode : Int → S110 := (fun a : Int => (⟨a, a + 1, a + 2⟩ : S110))
theorem ev_markIndexNodeS (l : List S110) (hl : l.length ≤ 4194304) : Ev (fun k => laws_markIndexNodeS.f k l 1) (1 + 3 * (l.length : Int), markL mkIndexNode 3 l.length 1) := by
  have h : Ev (fun k => laws_markIndexNodeS.l0 k l 1 ((0 : Nat) : Int)) (1 + 3 * (l.length : Int), markL mkIndexNode 3 l.length 1) := by
    refine ev_up (σ := List S110 × Int) (fun s i k => laws_markIndexNodeS.l0 k s.1 s.2 (i : Int)) l.length (fun s i => Filled (markL mkIndexNode 3 l.length 1) s.1 i ∧ s.2 = 1 + 3 * (i : Int)) (fun _ _ => (1 + 3 * (l.length : Int), markL mkIndexNode 3 l.length 1)) ?_ ?_ (l, 1) 0 (Nat.zero_le _) ⟨Filled.start _ _ (by simp [markL_length]), by simp⟩
    · rintro ⟨ys, a⟩ i hi ⟨hI, ha⟩ ih
      apply Ev.succ
      dsimp only at ha hI ⊢
      have hly : ys.length = l.length := by have := hI.1; simpa [markL_length] using this
      have h1 : (i : Int) < (ys.length : Int) := by omega
      have hiy : i < ys.length := by omega
      have w0 : wrap64 (a + 1) = a + 1 := wrap_in (by omega) (by omega)
      have w1 : wrap64 (a + 2) = a + 2 := wrap_in (by omega) (by omega)
      have w2 : wrap64 (a + 3) = a + 3 := wrap_in (by omega) (by omega)
      have hr := ih (ys.set i (mkIndexNode a), a + 3) ⟨hI.step (by simpa [markL_length] using hi) (by rw [markL_get, ha]; rfl), by dsimp only; omega⟩
      dsimp only at hr
      simp only [laws_markIndexNodeS.l0, Option.bind_some, h1, Int.natCast_nonneg, if_true, Int.toNat_natCast, wrap_up hi (by omega), w0, w1, w2, show a + 1 + 1 = a + 2 from by omega, show a + 2 + 1 = a + 3 from by omega]
      simpa [mkIndexNode, rd_T110, hiy] using hr
    · rintro ⟨ys, a⟩ ⟨hI, ha⟩
      apply Ev.succ
      dsimp only at ha hI ⊢
      have hly : ys.length = l.length := by have := hI.1; simpa [markL_length] using this
      have h1 : ¬ ((l.length : Int) < (ys.length : Int)) := by omega
      simp only [laws_markIndexNodeS.l0, h1, if_false]
      have hd : ys = markL mkIndexNode 3 l.length 1 := Filled.done (by rw [markL_length]; exact hI)
      exact Ev.some (by rw [ha, hd])
  exact h
theorem ev_heldIndexNodeS (n : Nat) (hn : n ≤ 4194304) : Ev (fun k => laws_heldIndexNodeS.f k (markL mkIndexNode 3 n 1) 1) (1 + 3 * (n : Int)) := by
  have h : Ev (fun k => laws_heldIndexNodeS.l0 k (markL mkIndexNode 3 n 1) 1 ((0 : Nat) : Int)) (1 + 3 * (n : Int)) := by
    refine ev_up (σ := Int) (fun a i k => laws_heldIndexNodeS.l0 k (markL mkIndexNode 3 n 1) a (i : Int)) n (fun a i => a = 1 + 3 * (i : Int)) (fun _ _ => 1 + 3 * (n : Int)) ?_ ?_ 1 0 (Nat.zero_le _) (by simp)
    · intro a i hi ha ih
      apply Ev.succ
      have h1 : (i : Int) < ((markL mkIndexNode 3 n 1).length : Int) := by rw [markL_length]; omega
      have hiy : i < (markL mkIndexNode 3 n 1).length := by rw [markL_length]; omega
      have hg : (markL mkIndexNode 3 n 1)[i] = mkIndexNode a := by rw [markL_get, ha]; rfl
      have w0 : wrap64 (a + 1) = a + 1 := wrap_in (by omega) (by omega)
      have w1 : wrap64 (a + 2) = a + 2 := wrap_in (by omega) (by omega)
      have w2 : wrap64 (a + 3) = a + 3 := wrap_in (by omega) (by omega)
      have hr := ih (a + 3) (by omega)
      have hrd : rd_T110 (markL mkIndexNode 3 n 1) (i : Int) = mkIndexNode a := by rw [← hg]; simp [rd_T110, hiy]
      simp only [laws_heldIndexNodeS.l0, h1, Int.natCast_nonneg, if_true, hrd, wrap_up hi (by omega), w0, w1, w2, show a + 1 + 1 = a + 2 from by omega, show a + 2 + 1 = a + 3 from by omega]
      simpa [mkIndexNode] using hr
    · intro a ha
      apply Ev.succ
      have h1 : ¬ ((n : Int) < ((markL mkIndexNode 3 n 1).length : Int)) := by rw [markL_length]; omega
      simp only [laws_heldIndexNodeS.l0, h1, if_false]
      exact Ev.some ha
  exact h


theorem both_IsIndex (l : List S110) (hl : l.length ≤ 1048576) : ∃ r, Ev (fun k => spec_IsIndex.f k l) r ∧ Ev (fun k => impl_IsIndex.f k l) r ∧ True := by
  refine ev_both (σ := Int) (τ := Int) (fun s i k => spec_IsIndex.l0 k l s (i : Int)) (fun s i k => impl_IsIndex.l0 k s l (l.length : Int) (i : Int)) l.length (fun s t _ => s = t) (fun _ => True) ?_ ?_ 0 0 0 (Nat.zero_le _) rfl
  · rintro s _ i hi rfl ih
    have h1 : (i : Int) < (l.length : Int) := by omega
    have e0 := wrap_up hi (by omega)
    obtain ⟨r, hs, ht, _⟩ := ih (wrap64 ((rd_T110 l i).f1 + 1)) _ rfl
    by_cases c0 : (rd_T110 l i).f0 = s
    · subst c0
      by_cases c1 : (rd_T110 l i).f0 ≤ (rd_T110 l i).f1 <;> by_cases c2 : (rd_T110 l i).f1 ≤ 5 <;> by_cases c3 : 0 ≤ (rd_T110 l i).f2 <;> by_cases c4 : (rd_T110 l i).f2 ≤ 999
      all_goals first
        | (refine ⟨false, Ev.succ ?_, Ev.succ ?_, trivial⟩ <;> (simp only [spec_IsIndex.l0, impl_IsIndex.l0, spec_l1In.f, impl_in.f, h1, c1, c2, c3, c4, Int.natCast_nonneg, ge_iff_le, decide_true, decide_false, if_true, if_false, Option.bind_some, Bool.false_eq_true]; exact Ev.now _))
        | (refine ⟨r, Ev.succ ?_, Ev.succ ?_, trivial⟩ <;> (simp only [spec_IsIndex.l0, impl_IsIndex.l0, spec_l1In.f, impl_in.f, h1, c1, c2, c3, c4, e0, Int.natCast_nonneg, ge_iff_le, decide_true, decide_false, if_true, if_false, Option.bind_some, Bool.false_eq_true]; assumption))
    · refine ⟨false, Ev.succ ?_, Ev.succ ?_, trivial⟩ <;> (simp only [spec_IsIndex.l0, impl_IsIndex.l0, h1, c0, Int.natCast_nonneg, if_true, if_false]; exact Ev.now _)
  · rintro s _ rfl
    refine ⟨s == 6, Ev.succ ?_, Ev.succ ?_, trivial⟩ <;> (simp [spec_IsIndex.l0, impl_IsIndex.l0]; exact Ev.now _)
theorem ev_first (p : S110 → Bool) (lo hi : Int) (hp : ∀ e : S110, impl_NodesFor_1.f e.f0 e.f1 e.f2 lo hi = some (p e)) (l : List S110) (hl : l.length ≤ 1048576) : ∃ q, Ev (fun k => impl_IndexNode_106.f k l lo hi) q ∧ ((q = -1 ∧ ∀ j (hj : j < l.length), p l[j] = false) ∨ (∃ t : Nat, ∃ ht : t < l.length, q = (t : Int) ∧ p l[t] = true ∧ ∀ j (hj : j < l.length), j < t → p l[j] = false)) := by
  show ∃ q, Ev (fun k => impl_IndexNode_106.l0 k l (l.length : Int) ((0 : Nat) : Int) lo hi) q ∧ _
  refine ev_to (σ := Unit) (fun _ i k => impl_IndexNode_106.l0 k l (l.length : Int) (i : Int) lo hi) l.length (fun _ i => ∀ j (hj : j < l.length), j < i → p l[j] = false) (fun q => (q = -1 ∧ ∀ j (hj : j < l.length), p l[j] = false) ∨ (∃ t : Nat, ∃ ht : t < l.length, q = (t : Int) ∧ p l[t] = true ∧ ∀ j (hj : j < l.length), j < t → p l[j] = false)) ?_ ?_ () 0 (Nat.zero_le _) (fun j hj h => absurd h (by omega))
  · intro _ i hi hI ih
    have h1 : (i : Int) < (l.length : Int) := by omega
    have e0 := wrap_up hi (by omega)
    have hrd : rd_T110 l (i : Int) = l[i] := by simp [rd_T110, hi]
    by_cases c : p (rd_T110 l (i : Int)) = true
    · refine ⟨(i : Int), Ev.succ ?_, .inr ⟨i, hi, rfl, by rw [← hrd]; exact c, hI⟩⟩
      simp only [impl_IndexNode_106.l0, h1, hp, c, Int.natCast_nonneg, if_true, Option.bind_some]; exact Ev.now _
    · have cb : p (rd_T110 l (i : Int)) = false := by simpa using c
      obtain ⟨q, hs, hR⟩ := ih () (fun j hj hji => if hh : j < i then hI j hj hh else by obtain rfl : j = i := (by omega); rw [← hrd]; exact cb)
      refine ⟨q, Ev.succ ?_, hR⟩
      simp only [impl_IndexNode_106.l0, h1, hp, cb, e0, Int.natCast_nonneg, if_true, if_false, Option.bind_some, Bool.false_eq_true]; exact hs
  · intro _ hI
    refine ⟨-1, Ev.succ ?_, .inl ⟨rfl, fun j hj => hI j hj hj⟩⟩
    simp only [impl_IndexNode_106.l0, Int.lt_irrefl, if_false]; exact Ev.now _
theorem ev_delete (p : S110 → Bool) (lo hi : Int) (hp : ∀ e : S110, impl_NodesFor_1.f e.f0 e.f1 e.f2 lo hi = some (p e)) (l : List S110) (hl : l.length ≤ 1048576) : Ev (fun k => impl_IndexNode_91.f k l lo hi) (l.filter (fun e => !p e)) := by
  obtain ⟨q, eq, hq⟩ := ev_first p lo hi hp l hl
  unfold impl_IndexNode_91.f
  refine Ev.bind eq ?_
  rcases hq with ⟨rfl, hn⟩ | ⟨t, ht, rfl, hpt, hn⟩
  · simp only [if_true, filter_none hn]; exact Ev.now _
  · have hne : ¬ ((t : Int) = -1) := by omega
    have e0 := wrap_up ht (by omega)
    simp only [hne, if_false, e0]
    refine ev_up (σ := List S110 × Nat) (fun s j k => impl_IndexNode_91.l0 k s.1 (s.2 : Int) (j : Int) lo hi) l.length (fun s j => Del p l s.1 s.2 j) (fun _ _ => l.filter (fun e => !p e)) ?_ ?_ (l, t) (t + 1) (by omega) (Del.start ht hpt hn)
    · rintro ⟨xs, i⟩ j hj hI ih
      have hlen := hI.1
      have hij := hI.2.1
      dsimp only at hlen hij hI ih ⊢
      have h1 : (j : Int) < (xs.length : Int) := by omega
      have hjx : j < xs.length := by omega
      have e1 := wrap_up hj (by omega)
      have hrd : rd_T110 xs (j : Int) = l[j] := by rw [← hI.get hjx hj]; simp [rd_T110, hjx]
      apply Ev.succ
      by_cases c : p (rd_T110 xs (j : Int)) = true
      · simp only [impl_IndexNode_91.l0, h1, hp, c, e1, Int.natCast_nonneg, if_true, Option.bind_some]
        exact ih (xs, i) (hI.skip hj (by rw [← hrd]; exact c))
      · have cb : p (rd_T110 xs (j : Int)) = false := by simpa using c
        have h2 : (i : Int) < (xs.length : Int) := by omega
        have e2 := wrap_up (show i < l.length by omega) (by omega)
        simp only [impl_IndexNode_91.l0, h1, h2, hp, cb, e1, e2, Int.natCast_nonneg, if_true, if_false, Option.bind_some, Bool.false_eq_true, Int.toNat_natCast]
        exact ih (xs.set i (rd_T110 xs (j : Int)), i + 1) (hI.keep hj (by rw [← hrd]; exact cb) hrd)
    · rintro ⟨xs, i⟩ hI
      have hlen := hI.1
      have hij := hI.2.1
      dsimp only at hlen hij hI ⊢
      have h1 : ¬ ((l.length : Int) < (xs.length : Int)) := by omega
      have h2 : (i : Int) ≤ (xs.length : Int) := by omega
      apply Ev.succ
      simp only [impl_IndexNode_91.l0, h1, h2, Int.natCast_nonneg, if_true, if_false, Int.toNat_natCast]
      refine Ev.some ?_
      rw [← hI.done]
      unfold clr
      rw [List.take_append_of_le_length (by rw [List.length_take]; omega), List.take_take, Nat.min_self]
theorem ev_filter (p : S110 → Bool) (lo hi : Int) (L : Nat → List S110 → Int → Option (List S110)) (l : List S110) (hl : l.length ≤ 1048576)
    (hstop : ∀ k ys, L (k + 1) ys (l.length : Int) = some ys)
    (hgo : ∀ k ys i (hi : i < l.length), ys.length ≤ 1048576 → L (k + 1) ys (i : Int) = if p l[i] = true then L k ys ((i + 1 : Nat) : Int) else L k (ys ++ [l[i]]) ((i + 1 : Nat) : Int)) : Ev (fun k => L k [] ((0 : Nat) : Int)) (l.filter (fun e => !p e)) := by
  refine ev_up (σ := List S110) (fun ys i k => L k ys (i : Int)) l.length (fun ys i => ys = (l.take i).filter (fun e => !p e)) (fun _ _ => l.filter (fun e => !p e)) ?_ ?_ [] 0 (Nat.zero_le _) (by simp)
  · rintro ys i hi rfl ih
    have hle : ((l.take i).filter (fun e => !p e)).length ≤ 1048576 := Nat.le_trans (List.length_filter_le ..) (by rw [List.length_take]; omega)
    apply Ev.succ
    simp only [hgo _ _ i hi hle]
    by_cases c : p l[i] = true
    · simp only [c, if_true]
      exact ih _ (by rw [take_succ_filter _ _ _ hi]; simp [c])
    · simp only [c, Bool.false_eq_true, if_false]
      exact ih _ (by rw [take_succ_filter _ _ _ hi]; simp [c])
  · rintro ys rfl
    apply Ev.succ
    simp only [hstop]
    exact Ev.some (by rw [List.take_length])
theorem both_NodesFor (l : List S110) (lo hi : Int) (hl : l.length ≤ 1048576) : ∃ r, Ev (fun k => spec_NodesFor.f k l lo hi) r ∧ Ev (fun k => impl_NodesFor.f k l lo hi) r ∧ r.length ≤ l.length := by
  obtain ⟨b, eS, eI, _⟩ := both_IsIndex l hl
  by_cases hb : b = true ∧ lo ≤ hi
  rotate_left 1
  · refine ⟨[], ?_, ?_, by simp⟩
    · show Ev (fun k => spec_NodesFor.l0 k l lo hi [] ((0 : Nat) : Int)) []
      by_cases hbt : b = true
      · subst hbt
        have hlo : ¬ lo ≤ hi := fun h => hb ⟨rfl, h⟩
        refine ev_up (σ := Unit) (fun _ i k => spec_NodesFor.l0 k l lo hi [] (i : Int)) l.length (fun _ _ => True) (fun _ _ => []) ?_ ?_ () 0 (Nat.zero_le _) trivial
        · intro _ i hi' _ ih
          have h1 : (i : Int) < (l.length : Int) := by omega
          apply Ev.succ
          simp only [spec_NodesFor.l0, h1, if_true]
          refine Ev.bind eS ?_
          apply Ev.succ
          simp only [spec_NodesFor.j1, h1, hlo, Int.natCast_nonneg, if_true, if_false, wrap_up hi' (by omega), ite_self]
          exact ih () trivial
        · intro _ _
          apply Ev.succ
          simp only [spec_NodesFor.l0, Int.lt_irrefl, if_false]
          apply Ev.succ
          simp only [spec_NodesFor.j1, Bool.false_eq_true, if_false]; exact Ev.now _
      · have hbf : b = false := by simpa using hbt
        subst hbf
        apply Ev.succ
        by_cases h0 : ((0 : Nat) : Int) < (l.length : Int)
        · simp only [spec_NodesFor.l0, h0, if_true]
          refine Ev.bind eS ?_
          apply Ev.succ
          simp only [spec_NodesFor.j1, Bool.false_eq_true, if_false]; exact Ev.now _
        · simp only [spec_NodesFor.l0, h0, if_false]
          apply Ev.succ
          simp only [spec_NodesFor.j1, Bool.false_eq_true, if_false]; exact Ev.now _
    · unfold impl_NodesFor.f
      refine Ev.bind eI ?_
      by_cases hbt : b = true
      · have hlo : lo > hi := by
          have : ¬ lo ≤ hi := fun h => hb ⟨hbt, h⟩
          omega
        simp only [hbt, hlo, decide_true, if_true]
        apply Ev.succ
        simp only [impl_NodesFor.j0, if_true]; exact Ev.now _
      · simp only [hbt, if_false]
        apply Ev.succ
        simp only [impl_NodesFor.j0, if_true]; exact Ev.now _
  obtain ⟨rfl, hlo⟩ := hb
  have hlo' : ¬ lo > hi := by omega
  refine ⟨l.filter (fun e => !(decide (e.f1 < lo) || decide (e.f0 > hi))), ?_, ?_, List.length_filter_le ..⟩
  · show Ev (fun k => spec_NodesFor.l0 k l lo hi [] ((0 : Nat) : Int)) _
    refine ev_up (σ := List S110) (fun ys i k => spec_NodesFor.l0 k l lo hi ys (i : Int)) l.length (fun ys i => ys = (l.take i).filter (fun e => !(decide (e.f1 < lo) || decide (e.f0 > hi)))) (fun _ _ => l.filter (fun e => !(decide (e.f1 < lo) || decide (e.f0 > hi)))) ?_ ?_ [] 0 (Nat.zero_le _) (by simp)
    · rintro ys i hi' hys ih
      have hle : ys.length ≤ 1048576 := by rw [hys]; exact Nat.le_trans (List.length_filter_le ..) (by rw [List.length_take]; omega)
      have h1 : (i : Int) < (l.length : Int) := by omega
      have h2 : ys.length < 5864062014805 := by omega
      have hrd : rd_T110 l (i : Int) = l[i] := by simp [rd_T110, hi']
      apply Ev.succ
      simp only [spec_NodesFor.l0, h1, if_true]
      refine Ev.bind eS ?_
      apply Ev.succ
      simp only [spec_NodesFor.j1, h1, h2, hlo, hrd, Int.natCast_nonneg, if_true, wrap_up hi' (by omega)]
      by_cases c : l[i].f0 ≤ hi
      · by_cases d : lo ≤ l[i].f1
        · simp only [c, d, if_true]
          have c' : ¬ l[i].f0 > hi := by omega
          have d' : ¬ l[i].f1 < lo := by omega
          exact ih _ (by rw [take_succ_filter _ _ _ hi', hys]; simp [c', d'])
        · have d' : l[i].f1 < lo := by omega
          simp only [c, d, if_true, if_false]
          exact ih _ (by rw [take_succ_filter _ _ _ hi', hys]; simp [d'])
      · have c' : l[i].f0 > hi := by omega
        simp only [c, if_false]
        exact ih _ (by rw [take_succ_filter _ _ _ hi', hys]; simp [c'])
    · rintro ys hys
      apply Ev.succ
      simp only [spec_NodesFor.l0, Int.lt_irrefl, if_false]
      apply Ev.succ
      simp only [spec_NodesFor.j1, Bool.false_eq_true, if_false]
      exact Ev.some (by rw [hys, List.take_length])
  · unfold impl_NodesFor.f
    refine Ev.bind eI ?_
    simp only [hlo', decide_false, if_true]
    apply Ev.succ
    have h2 : ([] : List S110).length + l.length < 5864062014805 := by simp; omega
    simp only [impl_NodesFor.j0, Bool.false_eq_true, if_false, impl_IndexNode_87.f, Option.bind_some, h2, if_true, List.nil_append]
    exact Ev.bind (ev_delete (fun e => (decide (e.f1 < lo) || decide (e.f0 > hi))) lo hi (by intro e; by_cases c : e.f1 < lo <;> simp [impl_NodesFor_1.f, c]) l hl) (Ev.now _)
theorem FnExactNodesFor : ∀ (x0 : List (S112)) (x1 : Int) (x2 : Int), (okRow PFnExactNodesFor.g112) x0 → (okInt .i64) x1 → (okInt .i64) x2 → ∃ k, laws_FnExactNodesFor.f k x0 x1 x2 = some true := by
  intro l a b hl _ _
  have hm : l.length ≤ 9223372036854775807 := by have := hl.1; simp only [maxLen] at this; omega
  apply Ev.rounds
  unfold laws_FnExactNodesFor.f
  simp only [sz_IndexNodeS l 1048576 (by omega) (by omega) hm, Option.bind_some]
  by_cases h : (1048576 : Int) < l.length
  · simp only [h, if_true]
    exact Ev.some rfl
  · have hs : l.length ≤ 1048576 := by omega
    have h0 : ¬ ((1048576 : Int) - l.length < 0) := by omega
    simp only [h, h0, if_false]
    obtain ⟨r, e1, e2, hr⟩ := both_NodesFor (l.map cvIndexNode) a b (by simpa using hs)
    have hr' : r.length ≤ 1048576 := by simp at hr; omega
    clear hr
    refine Ev.bind (ev_toIndexNodeS l hs) (Ev.bind e1 (Ev.bind (ev_toIndexNodeS l hs) (Ev.bind e2 (Ev.bind (ev_eqIndexNodeS r (by omega)) ?_))))
    simp only [if_true]
    refine Ev.bind (ev_toIndexNodeS l hs) (Ev.bind (ev_eqIndexNodeS _ (by simpa using hm)) ?_)
    simp only [if_true]
    refine Ev.bind (ev_markIndexNodeS _ (by simp; omega)) ?_
    have hx : ¬ ((1 : Int) + 3 * ((l.map cvIndexNode).length : Int) < 0) := by omega
    simp only [hx, if_false]
    refine Ev.bind (ev_eqIndexNodeS r (by omega)) ?_
    simp only [Bool.not_true]
    apply Ev.succ
    simp only [laws_FnExactNodesFor.j0, Bool.false_eq_true, if_false]
    refine Ev.bind (ev_markIndexNodeS r (by omega)) (Ev.bind (ev_heldIndexNodeS _ (by omega)) ?_)
    have hy : ¬ ((1 : Int) + 3 * (r.length : Int) < 0) := by omega
    simp only [hy, if_false, if_true]
    refine Ev.bind (ev_toIndexNodeS l hs) (Ev.bind e2 (Ev.bind (ev_eqIndexNodeS r (by omega)) ?_))
    simp only [if_true]
    refine Ev.bind (ev_heldIndexNodeS _ (by omega)) ?_
    simp only [hy, if_false, if_true]
    exact Ev.some rfl

end Go.Proofs.Ytaopeedfmhmfgaa.Pure
