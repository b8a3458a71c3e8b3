/- The plain statement of FnExactSplitNode: both functions split the same node of the list, and marks in the result are held. Condition: the list's length is at most maxLen. -/
import Derived.Test.YtaopeedfmhmfgaaGoodFnExactSplitNode
import Derived.Test.YtaopeedfmhmfgaaPlain
namespace Go.Proofs.Ytaopeedfmhmfgaa.Pure
open Go.RowKit Go.Proofs.Ytaopeedfmhmfgaa.PFnExactSplitNode Go.Proofs.YtaopeedfmhmfgaaW.PrintWords Go.Proofs.YtaopeedfmhmfgaaW.PrintLast Go.Proofs.Ytaopeedfmhmfgaa.OpenK Go.Proofs.Ytaopeedfmhmfgaa.Plain
set_option linter.unusedVariables false
set_option linter.unusedSimpArgs false

theorem sz_IndexNodeS (l : List S112) (a : Int) (h0 : 0 ≤ a) (h1 : a ≤ 1048576) (hl : l.length ≤ 9223372036854775807) : laws_szIndexNodeS.f l a = some (if a < l.length then -1 else a - l.length) := by
  unfold laws_szIndexNodeS.f
  rw [wrap_in (by omega) (by omega)]
  by_cases h : a < l.length
  · rw [if_pos (by omega), if_pos h]
  · rw [if_neg (by omega), if_neg h]

theorem szx_IndexNode (l : List S112) (a : Int) (h0 : 0 ≤ a) (h1 : a ≤ 1048576) (hl : l.length ≤ 9223372036854775807) : ∃ r, Ev (fun _ => laws_szIndexNodeS.f l a) r ∧ r ≤ a ∧ (0 ≤ r → l.length ≤ 1048576) := by
  rw [sz_IndexNodeS l a h0 h1 hl]
  refine ⟨_, Ev.now _, ?_, ?_⟩ <;> split <;> omega

def cvIndexNode (x : S112) : S110 := ⟨x.f0, x.f1, x.f2⟩
theorem ev_toIndexNodeS (l : List S112) (hl : l.length ≤ 1048576) : Ev (fun k => laws_toIndexNodeS.f k l) (l.map cvIndexNode) := by
  have h : Ev (fun k => laws_toIndexNodeS.l0 k l (List.replicate l.length z110) ((0 : Nat) : Int)) (l.map cvIndexNode) := by
    refine ev_up (σ := List S110) (fun ys i k => laws_toIndexNodeS.l0 k l ys (i : Int)) l.length (fun ys i => Filled (l.map cvIndexNode) ys i) (fun _ _ => l.map cvIndexNode) ?_ ?_ (List.replicate l.length z110) 0 (Nat.zero_le _) (Filled.start _ _ (by simp))
    · intro ys i hi hI ih
      apply Ev.succ
      have h1 : (i : Int) < (l.length : Int) := by omega
      have h2 : (i : Int) < (ys.length : Int) := by have := hI.1; simp at this; omega
      simp only [laws_toIndexNodeS.l0, laws_toIndexNode.f, Option.bind_some, h1, h2, Int.natCast_nonneg, if_true, Int.toNat_natCast, wrap_up hi (by omega)]
      exact ih _ (hI.step (by simpa using hi) (by simp [cvIndexNode, rd_T112, hi]))
    · intro ys hI
      apply Ev.succ
      simp only [laws_toIndexNodeS.l0, Int.lt_irrefl, if_false]
      exact Ev.some (Filled.done (by simpa using hI))
  unfold laws_toIndexNodeS.f
  have h3 : ((l.length : Int) : Int).toNat ≤ 11728124029610 := by omega
  simp only [Int.natCast_nonneg, if_true, h3]
  simpa using h

theorem ev_eqIndexNodeS (l : List S110) (hl : l.length ≤ 9223372036854775807) : Ev (fun k => laws_eqIndexNodeS.f k l l) true := by
  have h : Ev (fun k => laws_eqIndexNodeS.l0 k l l ((0 : Nat) : Int)) true := by
    refine ev_up (σ := Unit) (fun _ i k => laws_eqIndexNodeS.l0 k l l (i : Int)) l.length (fun _ _ => True) (fun _ _ => true) ?_ ?_ () 0 (Nat.zero_le _) trivial
    · intro ys i hi hI ih
      apply Ev.succ
      have h1 : (i : Int) < (l.length : Int) := by omega
      simp only [laws_eqIndexNodeS.l0, laws_eqIndexNode.f, Option.bind_some, h1, Int.natCast_nonneg, if_true, wrap_up hi hl]
      exact ih () trivial
    · intro ys hI
      apply Ev.succ
      simp only [laws_eqIndexNodeS.l0, Int.lt_irrefl, if_false]
      exact Ev.now _
  unfold laws_eqIndexNodeS.f
  simp only [if_true]
  exact h

def mkIndexNode : Int → S110 := (fun a : Int => (⟨a, a + 1, a + 2⟩ : S110))
theorem ev_markIndexNodeS (l : List S110) (hl : l.length ≤ 4194304) : Ev (fun k => laws_markIndexNodeS.f k l 1) (1 + 3 * (l.length : Int), markL mkIndexNode 3 l.length 1) := by
  have h : Ev (fun k => laws_markIndexNodeS.l0 k l 1 ((0 : Nat) : Int)) (1 + 3 * (l.length : Int), markL mkIndexNode 3 l.length 1) := by
    refine ev_up (σ := List S110 × Int) (fun s i k => laws_markIndexNodeS.l0 k s.1 s.2 (i : Int)) l.length (fun s i => Filled (markL mkIndexNode 3 l.length 1) s.1 i ∧ s.2 = 1 + 3 * (i : Int)) (fun _ _ => (1 + 3 * (l.length : Int), markL mkIndexNode 3 l.length 1)) ?_ ?_ (l, 1) 0 (Nat.zero_le _) ⟨Filled.start _ _ (by simp [markL_length]), by simp⟩
    · rintro ⟨ys, a⟩ i hi ⟨hI, ha⟩ ih
      apply Ev.succ
      dsimp only at ha hI ⊢
      have hly : ys.length = l.length := by have := hI.1; simpa [markL_length] using this
      have h1 : (i : Int) < (ys.length : Int) := by omega
      have hiy : i < ys.length := by omega
      have w0 : wrap64 (a + 1) = a + 1 := wrap_in (by omega) (by omega)
      have w1 : wrap64 (a + 2) = a + 2 := wrap_in (by omega) (by omega)
      have w2 : wrap64 (a + 3) = a + 3 := wrap_in (by omega) (by omega)
      have hr := ih (ys.set i (mkIndexNode a), a + 3) ⟨hI.step (by simpa [markL_length] using hi) (by rw [markL_get, ha]; rfl), by dsimp only; omega⟩
      dsimp only at hr
      simp only [laws_markIndexNodeS.l0, Option.bind_some, h1, Int.natCast_nonneg, if_true, Int.toNat_natCast, wrap_up hi (by omega), w0, w1, w2, show a + 1 + 1 = a + 2 from by omega, show a + 2 + 1 = a + 3 from by omega]
      simpa [mkIndexNode, rd_T110, hiy] using hr
    · rintro ⟨ys, a⟩ ⟨hI, ha⟩
      apply Ev.succ
      dsimp only at ha hI ⊢
      have hly : ys.length = l.length := by have := hI.1; simpa [markL_length] using this
      have h1 : ¬ ((l.length : Int) < (ys.length : Int)) := by omega
      simp only [laws_markIndexNodeS.l0, h1, if_false]
      have hd : ys = markL mkIndexNode 3 l.length 1 := Filled.done (by rw [markL_length]; exact hI)
      exact Ev.some (by rw [ha, hd])
  exact h
theorem ev_heldIndexNodeS (n : Nat) (hn : n ≤ 4194304) : Ev (fun k => laws_heldIndexNodeS.f k (markL mkIndexNode 3 n 1) 1) (1 + 3 * (n : Int)) := by
  have h : Ev (fun k => laws_heldIndexNodeS.l0 k (markL mkIndexNode 3 n 1) 1 ((0 : Nat) : Int)) (1 + 3 * (n : Int)) := by
    refine ev_up (σ := Int) (fun a i k => laws_heldIndexNodeS.l0 k (markL mkIndexNode 3 n 1) a (i : Int)) n (fun a i => a = 1 + 3 * (i : Int)) (fun _ _ => 1 + 3 * (n : Int)) ?_ ?_ 1 0 (Nat.zero_le _) (by simp)
    · intro a i hi ha ih
      apply Ev.succ
      have h1 : (i : Int) < ((markL mkIndexNode 3 n 1).length : Int) := by rw [markL_length]; omega
      have hiy : i < (markL mkIndexNode 3 n 1).length := by rw [markL_length]; omega
      have hg : (markL mkIndexNode 3 n 1)[i] = mkIndexNode a := by rw [markL_get, ha]; rfl
      have w0 : wrap64 (a + 1) = a + 1 := wrap_in (by omega) (by omega)
      have w1 : wrap64 (a + 2) = a + 2 := wrap_in (by omega) (by omega)
      have w2 : wrap64 (a + 3) = a + 3 := wrap_in (by omega) (by omega)
      have hr := ih (a + 3) (by omega)
      have hrd : rd_T110 (markL mkIndexNode 3 n 1) (i : Int) = mkIndexNode a := by rw [← hg]; simp [rd_T110, hiy]
      simp only [laws_heldIndexNodeS.l0, h1, Int.natCast_nonneg, if_true, hrd, wrap_up hi (by omega), w0, w1, w2, show a + 1 + 1 = a + 2 from by omega, show a + 2 + 1 = a + 3 from by omega]
      simpa [mkIndexNode] using hr
    · intro a ha
      apply Ev.succ
      have h1 : ¬ ((n : Int) < ((markL mkIndexNode 3 n 1).length : Int)) := by rw [markL_length]; omega
      simp only [laws_heldIndexNodeS.l0, h1, if_false]
      exact Ev.some ha
  exact h


theorem both_IsIndex3 (l : List S110) (hl : l.length ≤ 1048576) : ∃ r, Ev (fun k => spec_IsIndex.f k l) r ∧ Ev (fun k => impl_IsIndex.f k l) r ∧ (r = true → ∀ i j : Nat, i < j → j < l.length → (rd_T110 l (i : Int)).f1 < (rd_T110 l (j : Int)).f0) := by
  refine ev_both (σ := Int) (τ := Int) (fun s i k => spec_IsIndex.l0 k l s (i : Int)) (fun s i k => impl_IsIndex.l0 k s l (l.length : Int) (i : Int)) l.length (fun s t i => s = t ∧ 0 ≤ s ∧ (∀ j : Nat, j < i → (rd_T110 l (j : Int)).f1 < s) ∧ ∀ q j : Nat, q < j → j < i → (rd_T110 l (q : Int)).f1 < (rd_T110 l (j : Int)).f0) (fun r => r = true → ∀ i j : Nat, i < j → j < l.length → (rd_T110 l (i : Int)).f1 < (rd_T110 l (j : Int)).f0) ?_ ?_ 0 0 0 (Nat.zero_le _) ⟨rfl, Int.le_refl _, fun j hj => absurd hj (by omega), fun q j _ hj => absurd hj (by omega)⟩
  · rintro s _ i hi ⟨rfl, hs0, hs, hI⟩ ih
    have h1 : (i : Int) < (l.length : Int) := by omega
    have e0 := wrap_up hi (by omega)
    by_cases c0 : (rd_T110 l i).f0 = s
    · subst c0
      by_cases c1 : (rd_T110 l i).f0 ≤ (rd_T110 l i).f1 <;> by_cases c2 : (rd_T110 l i).f1 ≤ 5 <;> by_cases c3 : 0 ≤ (rd_T110 l i).f2 <;> by_cases c4 : (rd_T110 l i).f2 ≤ 999
      all_goals first
        | (refine ⟨false, Ev.succ ?_, Ev.succ ?_, fun h => nomatch h⟩ <;> (simp only [spec_IsIndex.l0, impl_IsIndex.l0, spec_l1In.f, impl_in.f, h1, c1, c2, c3, c4, Int.natCast_nonneg, ge_iff_le, decide_true, decide_false, if_true, if_false, Option.bind_some, Bool.false_eq_true]; exact Ev.now _))
        | (have hw : wrap64 ((rd_T110 l i).f1 + 1) = (rd_T110 l i).f1 + 1 := wrap_in (by omega) (by omega)
           obtain ⟨r, h2, ht, hR⟩ := ih ((rd_T110 l i).f1 + 1) _ ⟨rfl, by omega, fun j hj => if hh : j < i then by have := hs j hh; omega else by obtain rfl : j = i := (by omega); omega, fun q j hq hj => if hh : j < i then hI q j hq hh else by obtain rfl : j = i := (by omega); exact hs q hq⟩
           refine ⟨r, Ev.succ ?_, Ev.succ ?_, hR⟩ <;> (simp only [spec_IsIndex.l0, impl_IsIndex.l0, spec_l1In.f, impl_in.f, h1, c1, c2, c3, c4, e0, hw, Int.natCast_nonneg, ge_iff_le, decide_true, decide_false, if_true, if_false, Option.bind_some, Bool.false_eq_true]; assumption))
    · refine ⟨false, Ev.succ ?_, Ev.succ ?_, fun h => nomatch h⟩ <;> (simp only [spec_IsIndex.l0, impl_IsIndex.l0, h1, c0, Int.natCast_nonneg, if_true, if_false]; exact Ev.now _)
  · rintro s _ ⟨rfl, hs0, hs, hI⟩
    refine ⟨s == 6, Ev.succ ?_, Ev.succ ?_, fun _ => hI⟩ <;> (simp [spec_IsIndex.l0, impl_IsIndex.l0]; exact Ev.now _)
theorem ev_first (p : S110 → Bool) (a : Int) (hp : ∀ e : S110, impl_SplitNode_1.f e.f0 e.f1 e.f2 a = some (p e)) (l : List S110) (hl : l.length ≤ 1048576) : ∃ q, Ev (fun k => impl_IndexNode_106.f k l a) q ∧ ((q = -1 ∧ ∀ j (hj : j < l.length), p l[j] = false) ∨ (∃ t : Nat, ∃ ht : t < l.length, q = (t : Int) ∧ p l[t] = true ∧ ∀ j (hj : j < l.length), j < t → p l[j] = false)) := by
  show ∃ q, Ev (fun k => impl_IndexNode_106.l0 k l (l.length : Int) ((0 : Nat) : Int) a) q ∧ _
  refine ev_to (σ := Unit) (fun _ i k => impl_IndexNode_106.l0 k l (l.length : Int) (i : Int) a) l.length (fun _ i => ∀ j (hj : j < l.length), j < i → p l[j] = false) (fun q => (q = -1 ∧ ∀ j (hj : j < l.length), p l[j] = false) ∨ (∃ t : Nat, ∃ ht : t < l.length, q = (t : Int) ∧ p l[t] = true ∧ ∀ j (hj : j < l.length), j < t → p l[j] = false)) ?_ ?_ () 0 (Nat.zero_le _) (fun j hj h => absurd h (by omega))
  · intro _ i hi hI ih
    have h1 : (i : Int) < (l.length : Int) := by omega
    have e0 := wrap_up hi (by omega)
    have hrd : rd_T110 l (i : Int) = l[i] := by simp [rd_T110, hi]
    by_cases c : p (rd_T110 l (i : Int)) = true
    · refine ⟨(i : Int), Ev.succ ?_, .inr ⟨i, hi, rfl, by rw [← hrd]; exact c, hI⟩⟩
      simp only [impl_IndexNode_106.l0, h1, hp, c, Int.natCast_nonneg, if_true, Option.bind_some]; exact Ev.now _
    · have cb : p (rd_T110 l (i : Int)) = false := by simpa using c
      obtain ⟨q, hs, hR⟩ := ih () (fun j hj hji => if hh : j < i then hI j hj hh else by obtain rfl : j = i := (by omega); rw [← hrd]; exact cb)
      refine ⟨q, Ev.succ ?_, hR⟩
      simp only [impl_IndexNode_106.l0, h1, hp, cb, e0, Int.natCast_nonneg, if_true, if_false, Option.bind_some, Bool.false_eq_true]; exact hs
  · intro _ hI
    refine ⟨-1, Ev.succ ?_, .inl ⟨rfl, fun j hj => hI j hj hj⟩⟩
    simp only [impl_IndexNode_106.l0, Int.lt_irrefl, if_false]; exact Ev.now _
theorem both_SplitNode (l : List S110) (a : Int) (hl : l.length ≤ 1048576) : ∃ r, Ev (fun k => spec_SplitNode.f k l a) r ∧ Ev (fun k => impl_SplitNode.f k l a) r ∧ r.1.length ≤ l.length + 1 := by
  obtain ⟨ok, eS, eI, hI⟩ := both_IsIndex3 l hl
  have hcap : ([] : List S110).length + l.length < 5864062014805 := by simp; omega
  have hcopy : spec_l16Copy.f l = some l := by simp only [spec_l16Copy.f, Option.bind_some, hcap, if_true, List.nil_append]
  have hclone : impl_IndexNode_87.f l = some l := by simp only [impl_IndexNode_87.f, Option.bind_some, hcap, if_true, List.nil_append]
  obtain ⟨q, eq, hq⟩ := ev_first (fun e => decide (e.f0 < a) && decide (a ≤ e.f1)) a (by intro e; by_cases c : e.f0 < a <;> simp [impl_SplitNode_1.f, c]) l hl
  have jT : ∀ i : Nat, Ev (fun k => spec_SplitNode.j1 k l a [] false (i : Int) false) (l, false) := fun i => Ev.succ (by simp only [spec_SplitNode.j1, hcopy, Option.bind_some, Bool.false_eq_true, if_false]; exact Ev.now _)
  by_cases hk : ok = true
  rotate_left 1
  · refine ⟨(l, false), ?_, ?_, Nat.le_succ _⟩
    · show Ev (fun k => spec_SplitNode.l0 k l a [] false ((0 : Nat) : Int)) _
      apply Ev.succ
      by_cases h0 : ((0 : Nat) : Int) < (l.length : Int)
      · simp only [spec_SplitNode.l0, h0, if_true]
        refine Ev.bind eS ?_
        simp only [hk]; exact jT 0
      · simp only [spec_SplitNode.l0, h0, if_false]; exact jT 0
    · unfold impl_SplitNode.f
      refine Ev.bind eq ?_
      simp only [hclone, Option.bind_some]
      by_cases hq0 : q < 0
      · simp only [hq0, if_true]; exact Ev.now _
      · simp only [hq0, if_false]
        refine Ev.bind eI ?_
        simp only [hk, if_false]; exact Ev.now _
  subst hk
  have hI := hI rfl
  have hno : ∀ (ys : List S110) (d : Bool) (i : Nat) (hi : i < l.length) (r : List S110 × Bool), ys.length ≤ 2097152 → (decide (l[i].f0 < a) && decide (a ≤ l[i].f1)) = false → Ev (fun k => spec_SplitNode.l0 k l a (ys ++ [l[i]]) d ((i + 1 : Nat) : Int)) r → Ev (fun k => spec_SplitNode.l0 k l a ys d (i : Int)) r := by
    intro ys d i hi r hys hp h
    have h1 : (i : Int) < (l.length : Int) := by omega
    have h2 : ys.length < 5864062014805 := by omega
    have hrd : rd_T110 l (i : Int) = l[i] := by simp [rd_T110, hi]
    apply Ev.succ
    simp only [spec_SplitNode.l0, h1, if_true]
    refine Ev.bind eS ?_
    apply Ev.succ
    simp only [spec_SplitNode.j1, h1, h2, hrd, Int.natCast_nonneg, if_true, wrap_up hi (by omega), gt_iff_lt]
    by_cases c : l[i].f0 < a
    · have c2 : ¬ a ≤ l[i].f1 := by simpa [c] using hp
      simp only [c, c2, if_true, if_false]; exact h
    · simp only [c, if_false]; exact h
  have hstop : ∀ (ys : List S110) (d : Bool), Ev (fun k => spec_SplitNode.l0 k l a ys d (l.length : Int)) (if d = true then (ys, true) else (l, false)) := by
    intro ys d
    apply Ev.succ
    simp only [spec_SplitNode.l0, Int.lt_irrefl, if_false]
    apply Ev.succ
    simp only [spec_SplitNode.j1, hcopy, Option.bind_some, Bool.false_eq_true, if_false]
    cases d
    · simp only [Bool.false_eq_true, if_false]; exact Ev.now _
    · simp only [if_true]; exact Ev.now _
  rcases hq with ⟨rfl, hn⟩ | ⟨t, ht, rfl, hpt, hn⟩
  · refine ⟨(l, false), ?_, ?_, Nat.le_succ _⟩
    · show Ev (fun k => spec_SplitNode.l0 k l a [] false ((0 : Nat) : Int)) _
      refine ev_up (σ := List S110) (fun ys i k => spec_SplitNode.l0 k l a ys false (i : Int)) l.length (fun ys i => ys.length = i) (fun _ _ => (l, false)) ?_ ?_ [] 0 (Nat.zero_le _) rfl
      · intro ys i hi hys ih
        exact hno ys false i hi _ (by omega) (hn i hi) (ih _ (by simp [hys]))
      · intro ys _
        exact hstop ys false
    · unfold impl_SplitNode.f
      refine Ev.bind eq ?_
      simp only [hclone, Option.bind_some, show ((-1 : Int) < 0) by decide, if_true]; exact Ev.now _
  · have hrdt : rd_T110 l (t : Int) = l[t] := by simp [rd_T110, ht]
    simp only [Bool.and_eq_true, decide_eq_true_eq] at hpt
    obtain ⟨hp0, hp1⟩ := hpt
    refine ⟨(l.take t ++ [(⟨l[t].f0, wrap64 (a - 1), l[t].f2⟩ : S110), (⟨a, l[t].f1, l[t].f2⟩ : S110)] ++ l.drop (t + 1), true), ?_, ?_, ?_⟩
    · show Ev (fun k => spec_SplitNode.l0 k l a [] false ((0 : Nat) : Int)) _
      refine ev_up (σ := List S110) (fun ys i k => spec_SplitNode.l0 k l a ys false (i : Int)) t (fun ys i => ys = l.take i) (fun _ _ => (l.take t ++ [(⟨l[t].f0, wrap64 (a - 1), l[t].f2⟩ : S110), (⟨a, l[t].f1, l[t].f2⟩ : S110)] ++ l.drop (t + 1), true)) ?_ ?_ [] 0 (Nat.zero_le _) (by simp)
      · rintro ys i hi rfl ih
        have hi' : i < l.length := by omega
        exact hno _ false i hi' _ (by simp; omega) (hn i hi' hi) (ih _ (by rw [List.take_succ_eq_append_getElem hi']))
      · rintro ys rfl
        have h1 : (t : Int) < (l.length : Int) := by omega
        have h2 : (l.take t).length + [(⟨l[t].f0, wrap64 (a - 1), l[t].f2⟩ : S110), (⟨a, l[t].f1, l[t].f2⟩ : S110)].length < 5864062014805 := by simp; omega
        apply Ev.succ
        simp only [spec_SplitNode.l0, h1, if_true]
        refine Ev.bind eS ?_
        apply Ev.succ
        simp only [spec_SplitNode.j1, h1, hrdt, hp0, hp1, Int.natCast_nonneg, if_true, wrap_up ht (by omega), gt_iff_lt, Option.bind_some, h2]
        refine ev_up (σ := List S110) (fun ys i k => spec_SplitNode.l0 k l a ys true (i : Int)) l.length (fun ys i => t < i ∧ ys ++ l.drop i = l.take t ++ [(⟨l[t].f0, wrap64 (a - 1), l[t].f2⟩ : S110), (⟨a, l[t].f1, l[t].f2⟩ : S110)] ++ l.drop (t + 1)) (fun _ _ => (l.take t ++ [(⟨l[t].f0, wrap64 (a - 1), l[t].f2⟩ : S110), (⟨a, l[t].f1, l[t].f2⟩ : S110)] ++ l.drop (t + 1), true)) ?_ ?_ _ (t + 1) ht ⟨Nat.lt_succ_self _, rfl⟩
        · rintro ys i hi ⟨hti, hys⟩ ih
          have hrdi : rd_T110 l (i : Int) = l[i] := by simp [rd_T110, hi]
          have hd := hI t i hti hi
          rw [hrdt, hrdi] at hd
          have hlen : ys.length ≤ 2097152 := by
            have := congrArg List.length hys
            simp at this; omega
          refine hno ys true i hi _ hlen ?_ (ih _ ⟨by omega, ?_⟩)
          · have c : ¬ l[i].f0 < a := by omega
            simp [c]
          · rw [List.append_assoc, List.singleton_append, List.getElem_cons_drop]; exact hys
        · rintro ys ⟨_, hys⟩
          rw [List.drop_length, List.append_nil] at hys
          rw [← hys]
          exact hstop ys true
    · unfold impl_SplitNode.f
      refine Ev.bind eq ?_
      have h0 : ¬ ((t : Int) < 0) := by omega
      have h1 : (t : Int) < (l.length : Int) := by omega
      have h2 : ((t + 1 : Nat) : Int) ≤ ((l.set t (⟨l[t].f0, wrap64 (a - 1), l[t].f2⟩ : S110)).length : Int) := by simp; omega
      simp only [hclone, Option.bind_some, h0, if_false]
      refine Ev.bind eI ?_
      have hins : impl_IndexNode_108.f (l.set t (⟨l[t].f0, wrap64 (a - 1), l[t].f2⟩ : S110)) ((t + 1 : Nat) : Int) [(⟨a, l[t].f1, l[t].f2⟩ : S110)] = some (l.take t ++ [(⟨l[t].f0, wrap64 (a - 1), l[t].f2⟩ : S110), (⟨a, l[t].f1, l[t].f2⟩ : S110)] ++ l.drop (t + 1)) := by
        unfold impl_IndexNode_108.f
        rw [if_pos ⟨Int.natCast_nonneg _, h2, rfl, by simp; omega⟩, Int.toNat_natCast, List.set_eq_take_append_cons_drop, if_pos ht]
        have e1 : (List.take t l).length = t := by simp; omega
        have e2 : (List.take t l ++ (⟨l[t].f0, wrap64 (a - 1), l[t].f2⟩ : S110) :: List.drop (t + 1) l) = (List.take t l ++ [(⟨l[t].f0, wrap64 (a - 1), l[t].f2⟩ : S110)]) ++ List.drop (t + 1) l := by simp
        have e3 : (List.take t l ++ [(⟨l[t].f0, wrap64 (a - 1), l[t].f2⟩ : S110)]).length = t + 1 := by simp; omega
        rw [e2, List.take_left' e3, List.drop_left' e3]
        simp
      simp only [Int.natCast_nonneg, h1, hrdt, Int.toNat_natCast, wrap_up ht (by omega), hins, if_true, Option.bind_some]
      exact Ev.now _
    · simp; omega
theorem FnExactSplitNode : ∀ (x0 : List (S112)) (x1 : Int), (okRow PFnExactSplitNode.g112) x0 → (okInt .i64) x1 → ∃ k, laws_FnExactSplitNode.f k x0 x1 = some true := by
  intro l a hl _
  have hm : l.length ≤ 9223372036854775807 := by have := hl.1; simp only [maxLen] at this; omega
  apply Ev.rounds
  unfold laws_FnExactSplitNode.f
  simp only [sz_IndexNodeS l 1048576 (by omega) (by omega) hm, Option.bind_some]
  by_cases h : (1048576 : Int) < l.length
  · simp only [h, if_true]
    exact Ev.some rfl
  · have hs : l.length ≤ 1048576 := by omega
    have h0 : ¬ ((1048576 : Int) - l.length < 0) := by omega
    simp only [h, h0, if_false]
    obtain ⟨⟨r, ok⟩, e1, e2, hr⟩ := both_SplitNode (l.map cvIndexNode) a (by simpa using hs)
    have hr' : r.length ≤ 1048577 := by simp at hr; omega
    clear hr
    refine Ev.bind (ev_toIndexNodeS l hs) (Ev.bind e1 (Ev.bind (ev_toIndexNodeS l hs) (Ev.bind e2 (Ev.bind (ev_eqIndexNodeS r (by omega)) ?_))))
    simp only [if_true, bne_self_eq_false]
    apply Ev.succ
    simp only [laws_FnExactSplitNode.j0, Bool.false_eq_true, if_false]
    refine Ev.bind (ev_toIndexNodeS l hs) (Ev.bind (ev_eqIndexNodeS _ (by simpa using hm)) ?_)
    simp only [if_true]
    refine Ev.bind (ev_markIndexNodeS _ (by simp; omega)) ?_
    have hx : ¬ ((1 : Int) + 3 * ((l.map cvIndexNode).length : Int) < 0) := by omega
    simp only [hx, if_false]
    refine Ev.bind (ev_eqIndexNodeS r (by omega)) ?_
    simp only [if_true, bne_self_eq_false]
    apply Ev.succ
    simp only [laws_FnExactSplitNode.j1, Bool.false_eq_true, if_false]
    refine Ev.bind (ev_markIndexNodeS r (by omega)) (Ev.bind (ev_heldIndexNodeS _ (by omega)) ?_)
    have hy : ¬ ((1 : Int) + 3 * (r.length : Int) < 0) := by omega
    simp only [hy, if_false, if_true]
    refine Ev.bind (ev_toIndexNodeS l hs) (Ev.bind e2 (Ev.bind (ev_eqIndexNodeS r (by omega)) ?_))
    simp only [if_true, bne_self_eq_false]
    apply Ev.succ
    simp only [laws_FnExactSplitNode.j2, Bool.false_eq_true, if_false]
    refine Ev.bind (ev_heldIndexNodeS _ (by omega)) ?_
    simp only [hy, if_false, if_true]
    exact Ev.some rfl

end Go.Proofs.Ytaopeedfmhmfgaa.Pure
