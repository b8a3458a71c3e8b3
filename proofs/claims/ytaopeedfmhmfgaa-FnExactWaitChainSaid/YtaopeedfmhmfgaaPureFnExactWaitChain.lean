/- The plain statement of FnExactWaitChain: the two chains grow in step, at most nine places long. Condition: the list's length is at most maxLen. -/
import Derived.Test.YtaopeedfmhmfgaaGoodFnExactWaitChain
import Derived.Test.YtaopeedfmhmfgaaPlain
namespace Go.Proofs.Ytaopeedfmhmfgaa.Pure
open Go.RowKit Go.Proofs.Ytaopeedfmhmfgaa.PFnExactWaitChain Go.Proofs.YtaopeedfmhmfgaaW.PrintWords Go.Proofs.YtaopeedfmhmfgaaW.PrintLast Go.Proofs.Ytaopeedfmhmfgaa.OpenK Go.Proofs.Ytaopeedfmhmfgaa.Plain
set_option linter.unusedVariables false
set_option linter.unusedSimpArgs false

theorem sz_WaitS (l : List S87) (a : Int) (h0 : 0 ≤ a) (h1 : a ≤ 1048576) (hl : l.length ≤ 9223372036854775807) : laws_szWaitS.f l a = some (if a < l.length then -1 else a - l.length) := by
  unfold laws_szWaitS.f
  rw [wrap_in (by omega) (by omega)]
  by_cases h : a < l.length
  · rw [if_pos (by omega), if_pos h]
  · rw [if_neg (by omega), if_neg h]

theorem szx_Wait (l : List S87) (a : Int) (h0 : 0 ≤ a) (h1 : a ≤ 1048576) (hl : l.length ≤ 9223372036854775807) : ∃ r, Ev (fun _ => laws_szWaitS.f l a) r ∧ r ≤ a ∧ (0 ≤ r → l.length ≤ 1048576) := by
  rw [sz_WaitS l a h0 h1 hl]
  refine ⟨_, Ev.now _, ?_, ?_⟩ <;> split <;> omega

def cvWait (x : S87) : S85 := ⟨x.f0, x.f1⟩
theorem ev_toWaitS (l : List S87) (hl : l.length ≤ 1048576) : Ev (fun k => laws_toWaitS.f k l) (l.map cvWait) := by
  have h : Ev (fun k => laws_toWaitS.l0 k l (List.replicate l.length z85) ((0 : Nat) : Int)) (l.map cvWait) := by
    refine ev_up (σ := List S85) (fun ys i k => laws_toWaitS.l0 k l ys (i : Int)) l.length (fun ys i => Filled (l.map cvWait) ys i) (fun _ _ => l.map cvWait) ?_ ?_ (List.replicate l.length z85) 0 (Nat.zero_le _) (Filled.start _ _ (by simp))
    · intro ys i hi hI ih
      apply Ev.succ
      have h1 : (i : Int) < (l.length : Int) := by omega
      have h2 : (i : Int) < (ys.length : Int) := by have := hI.1; simp at this; omega
      simp only [laws_toWaitS.l0, laws_toWait.f, Option.bind_some, h1, h2, Int.natCast_nonneg, if_true, Int.toNat_natCast, wrap_up hi (by omega)]
      exact ih _ (hI.step (by simpa using hi) (by simp [cvWait, rd_T87, hi]))
    · intro ys hI
      apply Ev.succ
      simp only [laws_toWaitS.l0, Int.lt_irrefl, if_false]
      exact Ev.some (Filled.done (by simpa using hI))
  unfold laws_toWaitS.f
  have h3 : ((l.length : Int) : Int).toNat ≤ 17592186044416 := by omega
  simp only [Int.natCast_nonneg, if_true, h3]
  simpa using h

theorem ev_eqIntS (l : List Int) (hl : l.length ≤ 9223372036854775807) : Ev (fun k => laws_eqIntS.f k l l) true := by
  have h : Ev (fun k => laws_eqIntS.l0 k l l ((0 : Nat) : Int)) true := by
    refine ev_up (σ := Unit) (fun _ i k => laws_eqIntS.l0 k l l (i : Int)) l.length (fun _ _ => True) (fun _ _ => true) ?_ ?_ () 0 (Nat.zero_le _) trivial
    · intro ys i hi hI ih
      apply Ev.succ
      have h1 : (i : Int) < (l.length : Int) := by omega
      simp only [laws_eqIntS.l0, Option.bind_some, h1, Int.natCast_nonneg, if_true, wrap_up hi hl]
      exact ih () trivial
    · intro ys hI
      apply Ev.succ
      simp only [laws_eqIntS.l0, Int.lt_irrefl, if_false]
      exact Ev.now _
  unfold laws_eqIntS.f
  simp only [if_true]
  exact h

theorem ev_eqWaitS (l : List S85) (hl : l.length ≤ 9223372036854775807) : Ev (fun k => laws_eqWaitS.f k l l) true := by
  have h : Ev (fun k => laws_eqWaitS.l0 k l l ((0 : Nat) : Int)) true := by
    refine ev_up (σ := Unit) (fun _ i k => laws_eqWaitS.l0 k l l (i : Int)) l.length (fun _ _ => True) (fun _ _ => true) ?_ ?_ () 0 (Nat.zero_le _) trivial
    · intro ys i hi hI ih
      apply Ev.succ
      have h1 : (i : Int) < (l.length : Int) := by omega
      simp only [laws_eqWaitS.l0, laws_eqWait.f, Option.bind_some, h1, Int.natCast_nonneg, if_true, wrap_up hi hl]
      exact ih () trivial
    · intro ys hI
      apply Ev.succ
      simp only [laws_eqWaitS.l0, Int.lt_irrefl, if_false]
      exact Ev.now _
  unfold laws_eqWaitS.f
  simp only [if_true]
  exact h

def mkInt : Int → Int := (fun a : Int => a)
theorem ev_markIntS (l : List Int) (hl : l.length ≤ 4194304) : Ev (fun k => laws_markIntS.f k l 1) (1 + 1 * (l.length : Int), markL mkInt 1 l.length 1) := by
  have h : Ev (fun k => laws_markIntS.l0 k l 1 ((0 : Nat) : Int)) (1 + 1 * (l.length : Int), markL mkInt 1 l.length 1) := by
    refine ev_up (σ := List Int × Int) (fun s i k => laws_markIntS.l0 k s.1 s.2 (i : Int)) l.length (fun s i => Filled (markL mkInt 1 l.length 1) s.1 i ∧ s.2 = 1 + 1 * (i : Int)) (fun _ _ => (1 + 1 * (l.length : Int), markL mkInt 1 l.length 1)) ?_ ?_ (l, 1) 0 (Nat.zero_le _) ⟨Filled.start _ _ (by simp [markL_length]), by simp⟩
    · rintro ⟨ys, a⟩ i hi ⟨hI, ha⟩ ih
      apply Ev.succ
      dsimp only at ha hI ⊢
      have hly : ys.length = l.length := by have := hI.1; simpa [markL_length] using this
      have h1 : (i : Int) < (ys.length : Int) := by omega
      have hiy : i < ys.length := by omega
      have w0 : wrap64 (a + 1) = a + 1 := wrap_in (by omega) (by omega)
      have hr := ih (ys.set i (mkInt a), a + 1) ⟨hI.step (by simpa [markL_length] using hi) (by rw [markL_get, ha]; rfl), by dsimp only; omega⟩
      dsimp only at hr
      simp only [laws_markIntS.l0, Option.bind_some, h1, Int.natCast_nonneg, if_true, Int.toNat_natCast, wrap_up hi (by omega), w0]
      simpa [mkInt, hiy] using hr
    · rintro ⟨ys, a⟩ ⟨hI, ha⟩
      apply Ev.succ
      dsimp only at ha hI ⊢
      have hly : ys.length = l.length := by have := hI.1; simpa [markL_length] using this
      have h1 : ¬ ((l.length : Int) < (ys.length : Int)) := by omega
      simp only [laws_markIntS.l0, h1, if_false]
      have hd : ys = markL mkInt 1 l.length 1 := Filled.done (by rw [markL_length]; exact hI)
      exact Ev.some (by rw [ha, hd])
  exact h
theorem ev_heldIntS (n : Nat) (hn : n ≤ 4194304) : Ev (fun k => laws_heldIntS.f k (markL mkInt 1 n 1) 1) (1 + 1 * (n : Int)) := by
  have h : Ev (fun k => laws_heldIntS.l0 k (markL mkInt 1 n 1) 1 ((0 : Nat) : Int)) (1 + 1 * (n : Int)) := by
    refine ev_up (σ := Int) (fun a i k => laws_heldIntS.l0 k (markL mkInt 1 n 1) a (i : Int)) n (fun a i => a = 1 + 1 * (i : Int)) (fun _ _ => 1 + 1 * (n : Int)) ?_ ?_ 1 0 (Nat.zero_le _) (by simp)
    · intro a i hi ha ih
      apply Ev.succ
      have h1 : (i : Int) < ((markL mkInt 1 n 1).length : Int) := by rw [markL_length]; omega
      have hiy : i < (markL mkInt 1 n 1).length := by rw [markL_length]; omega
      have hg : (markL mkInt 1 n 1)[i] = mkInt a := by rw [markL_get, ha]; rfl
      have w0 : wrap64 (a + 1) = a + 1 := wrap_in (by omega) (by omega)
      have hr := ih (a + 1) (by omega)
      have hrd : rd (markL mkInt 1 n 1) (i : Int) = mkInt a := by rw [← hg]; simp [rd, hiy]
      simp only [laws_heldIntS.l0, h1, Int.natCast_nonneg, if_true, hrd, wrap_up hi (by omega), w0]
      simpa [mkInt] using hr
    · intro a ha
      apply Ev.succ
      have h1 : ¬ ((n : Int) < ((markL mkInt 1 n 1).length : Int)) := by rw [markL_length]; omega
      simp only [laws_heldIntS.l0, h1, if_false]
      exact Ev.some ha
  exact h

def mkWait : Int → S85 := (fun a : Int => (⟨a, a + 1⟩ : S85))
theorem ev_markWaitS (l : List S85) (hl : l.length ≤ 4194304) : Ev (fun k => laws_markWaitS.f k l 1) (1 + 2 * (l.length : Int), markL mkWait 2 l.length 1) := by
  have h : Ev (fun k => laws_markWaitS.l0 k l 1 ((0 : Nat) : Int)) (1 + 2 * (l.length : Int), markL mkWait 2 l.length 1) := by
    refine ev_up (σ := List S85 × Int) (fun s i k => laws_markWaitS.l0 k s.1 s.2 (i : Int)) l.length (fun s i => Filled (markL mkWait 2 l.length 1) s.1 i ∧ s.2 = 1 + 2 * (i : Int)) (fun _ _ => (1 + 2 * (l.length : Int), markL mkWait 2 l.length 1)) ?_ ?_ (l, 1) 0 (Nat.zero_le _) ⟨Filled.start _ _ (by simp [markL_length]), by simp⟩
    · rintro ⟨ys, a⟩ i hi ⟨hI, ha⟩ ih
      apply Ev.succ
      dsimp only at ha hI ⊢
      have hly : ys.length = l.length := by have := hI.1; simpa [markL_length] using this
      have h1 : (i : Int) < (ys.length : Int) := by omega
      have hiy : i < ys.length := by omega
      have w0 : wrap64 (a + 1) = a + 1 := wrap_in (by omega) (by omega)
      have w1 : wrap64 (a + 2) = a + 2 := wrap_in (by omega) (by omega)
      have hr := ih (ys.set i (mkWait a), a + 2) ⟨hI.step (by simpa [markL_length] using hi) (by rw [markL_get, ha]; rfl), by dsimp only; omega⟩
      dsimp only at hr
      simp only [laws_markWaitS.l0, Option.bind_some, h1, Int.natCast_nonneg, if_true, Int.toNat_natCast, wrap_up hi (by omega), w0, w1, show a + 1 + 1 = a + 2 from by omega]
      simpa [mkWait, rd_T85, hiy] using hr
    · rintro ⟨ys, a⟩ ⟨hI, ha⟩
      apply Ev.succ
      dsimp only at ha hI ⊢
      have hly : ys.length = l.length := by have := hI.1; simpa [markL_length] using this
      have h1 : ¬ ((l.length : Int) < (ys.length : Int)) := by omega
      simp only [laws_markWaitS.l0, h1, if_false]
      have hd : ys = markL mkWait 2 l.length 1 := Filled.done (by rw [markL_length]; exact hI)
      exact Ev.some (by rw [ha, hd])
  exact h


theorem both_AreWaits2 (l : List S85) (hl : l.length ≤ 1048576) : ∃ r, Ev (fun k => spec_AreWaits.f k l) r ∧ Ev (fun k => impl_AreWaits.f k l) r ∧ (r = true → ∀ j : Nat, j < l.length → (1 ≤ (rd_T85 l (j : Int)).f0 ∧ (rd_T85 l (j : Int)).f0 ≤ 9) ∧ (1 ≤ (rd_T85 l (j : Int)).f1 ∧ (rd_T85 l (j : Int)).f1 ≤ 9) ∧ (rd_T85 l (j : Int)).f0 ≠ (rd_T85 l (j : Int)).f1 ∧ (0 < j → (rd_T85 l ((j - 1 : Nat) : Int)).f0 < (rd_T85 l (j : Int)).f0)) := by
  let Q : Nat → Prop := fun j => (1 ≤ (rd_T85 l (j : Int)).f0 ∧ (rd_T85 l (j : Int)).f0 ≤ 9) ∧ (1 ≤ (rd_T85 l (j : Int)).f1 ∧ (rd_T85 l (j : Int)).f1 ≤ 9) ∧ (rd_T85 l (j : Int)).f0 ≠ (rd_T85 l (j : Int)).f1 ∧ (0 < j → (rd_T85 l ((j - 1 : Nat) : Int)).f0 < (rd_T85 l (j : Int)).f0)
  refine ev_both (σ := Unit) (τ := Unit) (fun _ i k => spec_AreWaits.l0 k l (i : Int)) (fun _ i k => impl_AreWaits.l0 k l l (l.length : Int) (i : Int)) l.length (fun _ _ i => ∀ j, j < i → Q j) (fun r => r = true → ∀ j, j < l.length → Q j) ?_ ?_ () () 0 (Nat.zero_le _) (fun j hj => absurd hj (by omega))
  · intro _ _ i hi hI ih
    have h1 : (i : Int) < (l.length : Int) := by omega
    have e0 := wrap_up hi (by omega)
    by_cases c0 : 1 ≤ (rd_T85 l i).f0 <;> by_cases c1 : (rd_T85 l i).f0 ≤ 9 <;> by_cases c2 : 1 ≤ (rd_T85 l i).f1 <;> by_cases c3 : (rd_T85 l i).f1 ≤ 9 <;> by_cases c4 : (rd_T85 l i).f0 = (rd_T85 l i).f1
    all_goals try (refine ⟨false, Ev.succ ?_, Ev.succ ?_, fun h => nomatch h⟩ <;> (simp [spec_AreWaits.l0, impl_AreWaits.l0, spec_l1In.f, impl_isID.f, impl_in.f, h1, c0, c1, c2, c3, c4]; first | done | exact Ev.now _))
    by_cases c5 : 0 < i
    · have e1 : wrap64 ((i : Int) - 1) = ((i - 1 : Nat) : Int) := wrap_down c5 (by omega)
      have h2 : ((i - 1 : Nat) : Int) < (l.length : Int) := by omega
      have h3 : (i : Int) > 0 := by omega
      by_cases c6 : (rd_T85 l ((i - 1 : Nat) : Int)).f0 ≥ (rd_T85 l i).f0
      · refine ⟨false, Ev.succ ?_, Ev.succ ?_, fun h => nomatch h⟩ <;> (simp only [spec_AreWaits.l0, impl_AreWaits.l0, spec_l1In.f, impl_isID.f, impl_in.f, h1, h2, h3, c0, c1, c2, c3, c4, c6, e1, Int.natCast_nonneg, ge_iff_le, decide_true, if_true, if_false, Option.bind_some]; exact Ev.now _)
      · obtain ⟨r, hs, ht, hR⟩ := ih () () (fun j hj => if hh : j < i then hI j hh else by obtain rfl : j = i := by omega
                                                                                           exact ⟨⟨c0, c1⟩, ⟨c2, c3⟩, c4, fun _ => by omega⟩)
        refine ⟨r, Ev.succ ?_, Ev.succ ?_, hR⟩ <;> (simp only [spec_AreWaits.l0, impl_AreWaits.l0, spec_l1In.f, impl_isID.f, impl_in.f, h1, h2, h3, c0, c1, c2, c3, c4, c6, e1, e0, Int.natCast_nonneg, ge_iff_le, decide_true, if_true, if_false, Option.bind_some]; assumption)
    · have h3 : ¬ ((i : Int) > 0) := by omega
      obtain ⟨r, hs, ht, hR⟩ := ih () () (fun j hj => if hh : j < i then hI j hh else by obtain rfl : j = i := by omega
                                                                                         exact ⟨⟨c0, c1⟩, ⟨c2, c3⟩, c4, fun h => absurd h c5⟩)
      refine ⟨r, Ev.succ ?_, Ev.succ ?_, hR⟩ <;> (simp only [spec_AreWaits.l0, impl_AreWaits.l0, spec_l1In.f, impl_isID.f, impl_in.f, h1, h3, c0, c1, c2, c3, c4, e0, Int.natCast_nonneg, ge_iff_le, decide_true, if_true, if_false, Option.bind_some]; assumption)
  · intro _ _ hI
    refine ⟨true, Ev.succ ?_, Ev.succ ?_, fun _ => hI⟩ <;> (simp [spec_AreWaits.l0, impl_AreWaits.l0]; exact Ev.now _)
theorem ev_has_int (xs : List Int) (a : Int) (hl : xs.length ≤ 1048576) : ∃ q, Ev (fun k => slices_Index_int_int.f k xs a) q ∧ ((0 ≤ q ∧ a ∈ xs) ∨ (q < 0 ∧ a ∉ xs)) := by
  have h : ∃ q, Ev (fun k => slices_Index_int_int.l0 k xs a (xs.length : Int) ((0 : Nat) : Int)) q ∧ ((0 ≤ q ∧ a ∈ xs) ∨ (q < 0 ∧ a ∉ xs)) := by
    refine ev_to (σ := Unit) (fun _ i k => slices_Index_int_int.l0 k xs a (xs.length : Int) (i : Int)) xs.length (fun _ i => ∀ j (hj : j < xs.length), j < i → xs[j] ≠ a) (fun q => (0 ≤ q ∧ a ∈ xs) ∨ (q < 0 ∧ a ∉ xs)) ?_ ?_ () 0 (Nat.zero_le _) (fun j hj h => absurd h (by omega))
    · intro _ i hi hI ih
      have h1 : (i : Int) < (xs.length : Int) := by omega
      have e0 := wrap_up hi (by omega)
      have hrd : rd xs (i : Int) = xs[i] := by simp [rd, hi]
      by_cases c : a = rd xs (i : Int)
      · refine ⟨(i : Int), Ev.succ ?_, .inl ⟨by omega, by rw [c, hrd]; exact List.getElem_mem hi⟩⟩
        simp only [slices_Index_int_int.l0, h1, ← c, Int.natCast_nonneg, if_true]; exact Ev.now _
      · obtain ⟨q, hs, hR⟩ := ih () (fun j hj hji => if hh : j < i then hI j hj hh else by obtain rfl : j = i := (by omega); rw [← hrd]; exact fun h => c h.symm)
        refine ⟨q, Ev.succ ?_, hR⟩
        simp only [slices_Index_int_int.l0, h1, c, e0, Int.natCast_nonneg, if_true, if_false]; exact hs
    · intro _ hI
      refine ⟨-1, Ev.succ ?_, .inr ⟨by omega, fun hm => ?_⟩⟩
      · simp only [slices_Index_int_int.l0, Int.lt_irrefl, if_false]; exact Ev.now _
      · obtain ⟨j, hj, hja⟩ := List.getElem_of_mem hm
        exact hI j hj hj hja
  exact h
theorem ev_contains_int (xs : List Int) (a : Int) (hl : xs.length ≤ 1048576) : Ev (fun k => slices_Contains_int_int.f k xs a) (decide (a ∈ xs)) := by
  obtain ⟨q, e, h⟩ := ev_has_int xs a hl
  unfold slices_Contains_int_int.f
  refine Ev.bind e (Ev.some ?_)
  rcases h with ⟨h0, hm⟩ | ⟨h0, hm⟩
  · simp [hm, h0]
  · simp only [hm, decide_false, decide_eq_false_iff_not]; omega
theorem filter_le (p q : Int → Bool) (h : ∀ x, p x = true → q x = true) : ∀ L : List Int, (L.filter p).length ≤ (L.filter q).length
  | [] => by simp
  | y :: L => by
    have ih := filter_le p q h L
    by_cases hp : p y = true
    · simp only [List.filter_cons, hp, h y hp, if_true, List.length_cons]; omega
    · by_cases hq : q y = true <;> simp only [List.filter_cons, hp, hq, if_true, if_false, List.length_cons, Bool.false_eq_true] <;> omega
theorem filter_lt (p q : Int → Bool) (h : ∀ x, p x = true → q x = true) (x : Int) (hx : q x = true) (hx' : p x = false) : ∀ L : List Int, x ∈ L → (L.filter p).length < (L.filter q).length
  | [], hm => absurd hm (by simp)
  | y :: L, hm => by
    have ihl := filter_le p q h L
    by_cases hy : x = y
    · subst hy
      simp only [List.filter_cons, hx, hx', if_true, List.length_cons, Bool.false_eq_true, if_false]; omega
    · have hm' : x ∈ L := by simpa [hy] using hm
      have ih := filter_lt p q h x hx hx' L hm'
      by_cases hp : p y = true
      · simp only [List.filter_cons, hp, h y hp, if_true, List.length_cons]; omega
      · by_cases hq : q y = true <;> simp only [List.filter_cons, hp, hq, if_true, if_false, List.length_cons, Bool.false_eq_true] <;> omega
def nine : List Int := [1, 2, 3, 4, 5, 6, 7, 8, 9]
theorem mem_nine {n : Int} (h : 1 ≤ n) (h' : n ≤ 9) : n ∈ nine := by
  simp only [nine, List.mem_cons, List.not_mem_nil, or_false]; omega
def free (out : List Int) : Nat := (nine.filter (fun x => decide (x ∉ out))).length
theorem free_lt (out : List Int) (n : Int) (h : 1 ≤ n) (h' : n ≤ 9) (hn : n ∉ out) : free (out ++ [n]) < free out := by
  refine filter_lt _ _ ?_ n (by simpa using hn) (by simp) nine (mem_nine h h')
  intro x hx
  simp only [List.mem_append, not_or, decide_eq_true_eq] at hx ⊢
  exact hx.1
theorem last_eq (out : List Int) (n x y : Int) (hl : out.length ≤ 1048576) : impl_WaitChain_1.f x y (out ++ [n]) = some (x == n) := by
  have h1 : wrap64 (((out ++ [n]).length : Int) - 1) = (out.length : Int) := by
    rw [wrap_in (by simp <;> omega) (by simp <;> omega)]; simp
  have h2 : (out.length : Int) < ((out ++ [n]).length : Int) := by simp; omega
  have h3 : rd (out ++ [n]) (out.length : Int) = n := by simp [rd]
  simp only [impl_WaitChain_1.f, h1, h2, h3, Int.natCast_nonneg, if_true]
theorem ev_l1_in (l : List S85) (out : List Int) (n : Int) (hl : out.length ≤ 1048576) (hn : n ∈ out) : Ev (fun k => spec_WaitChain.l1 k l out n ((0 : Nat) : Int)) (out ++ [n]) := by
  refine ev_up (σ := Unit) (fun _ i k => spec_WaitChain.l1 k l out n (i : Int)) out.length (fun _ i => ∀ j (hj : j < out.length), j < i → out[j] ≠ n) (fun _ _ => out ++ [n]) ?_ ?_ () 0 (Nat.zero_le _) (fun j hj h => absurd h (by omega))
  · intro _ i hi hI ih
    have h1 : (i : Int) < (out.length : Int) := by omega
    have e0 := wrap_up hi (by omega)
    have hrd : rd out (i : Int) = out[i] := by simp [rd, hi]
    have h2 : out.length < 17592186044416 := by omega
    apply Ev.succ
    by_cases c : rd out (i : Int) = n
    · simp only [spec_WaitChain.l1, h1, h2, c, Int.natCast_nonneg, if_true]; exact Ev.now _
    · simp only [spec_WaitChain.l1, h1, c, e0, Int.natCast_nonneg, if_true, if_false]
      exact ih () (fun j hj hji => if hh : j < i then hI j hj hh else by obtain rfl : j = i := (by omega); rw [← hrd]; exact c)
  · intro _ hI
    obtain ⟨j, hj, hja⟩ := List.getElem_of_mem hn
    exact absurd hja (hI j hj hj)
theorem ev_l1_out (l : List S85) (out : List Int) (n f : Int) (r : List Int) (hl : out.length ≤ 1048576) (hn : n ∉ out) (hf : Ev (fun k => spec_l11For.f k l n) f) (hr : Ev (fun k => spec_WaitChain.l0 k l (out ++ [n]) f) r) : Ev (fun k => spec_WaitChain.l1 k l out n ((0 : Nat) : Int)) r := by
  refine ev_up (σ := Unit) (fun _ i k => spec_WaitChain.l1 k l out n (i : Int)) out.length (fun _ _ => True) (fun _ _ => r) ?_ ?_ () 0 (Nat.zero_le _) trivial
  · intro _ i hi hI ih
    have h1 : (i : Int) < (out.length : Int) := by omega
    have e0 := wrap_up hi (by omega)
    have hrd : rd out (i : Int) = out[i] := by simp [rd, hi]
    have c : ¬ rd out (i : Int) = n := by rw [hrd]; exact fun h => hn (h ▸ List.getElem_mem hi)
    apply Ev.succ
    simp only [spec_WaitChain.l1, h1, c, e0, Int.natCast_nonneg, if_true, if_false]
    exact ih () trivial
  · intro _ _
    have h2 : out.length < 17592186044416 := by omega
    apply Ev.succ
    simp only [spec_WaitChain.l1, Int.lt_irrefl, h2, if_true, if_false]
    exact Ev.bind hf hr
theorem both_For (l : List S85) (out : List Int) (n : Int) (hl : l.length ≤ 1048576) (ho : out.length ≤ 1048576) : ∃ f q, Ev (fun k => spec_l11For.f k l n) f ∧ Ev (fun k => impl_Wait.f k l (out ++ [n])) q ∧ ((q < 0 ∧ f = 0) ∨ (0 ≤ q ∧ q < (l.length : Int) ∧ f = (rd_T85 l q).f1)) := by
  refine ev_two (σ := Unit) (τ := Unit) (fun _ i k => spec_l11For.l0 k l n (i : Int)) (fun _ i k => impl_Wait.l0 k l (l.length : Int) (i : Int) (out ++ [n])) l.length (fun _ _ _ => True) (fun f q => ((q < 0 ∧ f = 0) ∨ (0 ≤ q ∧ q < (l.length : Int) ∧ f = (rd_T85 l q).f1))) ?_ ?_ () () 0 (Nat.zero_le _) trivial
  · intro _ _ i hi _ ih
    have h1 : (i : Int) < (l.length : Int) := by omega
    have e0 := wrap_up hi (by omega)
    have e1 := fun x y => last_eq out n x y ho
    by_cases c : (rd_T85 l i).f0 = n
    · refine ⟨(rd_T85 l i).f1, (i : Int), Ev.succ ?_, Ev.succ ?_, .inr ⟨by omega, h1, rfl⟩⟩ <;> (simp only [spec_l11For.l0, impl_Wait.l0, e1, h1, c, beq_self_eq_true, Int.natCast_nonneg, if_true, Option.bind_some]; exact Ev.now _)
    · obtain ⟨f, q, hs, ht, hR⟩ := ih () () trivial
      have cb : ((rd_T85 l i).f0 == n) = false := by simpa using c
      refine ⟨f, q, Ev.succ ?_, Ev.succ ?_, hR⟩ <;> (simp only [spec_l11For.l0, impl_Wait.l0, e1, h1, c, cb, e0, Int.natCast_nonneg, if_true, if_false, Option.bind_some, Bool.false_eq_true]; assumption)
  · intro _ _ _
    refine ⟨0, -1, Ev.succ ?_, Ev.succ ?_, .inl ⟨by omega, rfl⟩⟩ <;> (simp only [spec_l11For.l0, impl_Wait.l0, Int.lt_irrefl, if_false]; exact Ev.now _)
theorem both_WaitChain (l : List S85) (a : Int) (hl : l.length ≤ 1048576) : ∃ r, Ev (fun k => spec_WaitChain.f k l a) r ∧ Ev (fun k => impl_WaitChain.f k l a) r ∧ r.length ≤ 10 := by
  obtain ⟨b, eA, eA', hA⟩ := both_AreWaits2 l hl
  by_cases hb : b = true
  rotate_left 1
  · refine ⟨[], ?_, ?_, by simp⟩
    · show Ev (fun k => spec_WaitChain.l0 k l [] a) _
      apply Ev.succ
      by_cases h0 : a > 0
      · simp only [spec_WaitChain.l0, h0, if_true]
        refine Ev.bind eA ?_
        simp only [hb, if_false]
        apply Ev.succ
        simp only [spec_WaitChain.j1, Bool.false_eq_true, if_false]; exact Ev.now _
      · simp only [spec_WaitChain.l0, h0, if_false]
        apply Ev.succ
        simp only [spec_WaitChain.j1, Bool.false_eq_true, if_false]; exact Ev.now _
    · unfold impl_WaitChain.f
      refine Ev.bind eA' ?_
      simp only [hb, if_false]
      apply Ev.succ
      simp only [impl_WaitChain.j0, if_true]; exact Ev.now _
  subst hb
  have hA := hA rfl
  by_cases ha : 1 ≤ a ∧ a ≤ 9
  rotate_left 1
  · refine ⟨[], ?_, ?_, by simp⟩
    · show Ev (fun k => spec_WaitChain.l0 k l [] a) _
      apply Ev.succ
      by_cases h0 : a > 0
      · have h9 : ¬ a ≤ 9 := by omega
        simp only [spec_WaitChain.l0, h0, if_true]
        refine Ev.bind eA ?_
        simp only [h9, if_true, decide_false]
        apply Ev.succ
        simp only [spec_WaitChain.j1, Bool.false_eq_true, if_false]; exact Ev.now _
      · simp only [spec_WaitChain.l0, h0, if_false]
        apply Ev.succ
        simp only [spec_WaitChain.j1, Bool.false_eq_true, if_false]; exact Ev.now _
    · unfold impl_WaitChain.f
      refine Ev.bind eA' ?_
      have hid : impl_isID.f a = some false := by
        unfold impl_isID.f impl_in.f
        by_cases h1 : 1 ≤ a
        · have h9 : ¬ a ≤ 9 := by omega
          simp [h1, h9]
        · simp [h1]
      simp only [hid, if_true, Option.bind_some, Bool.not_false]
      apply Ev.succ
      simp only [impl_WaitChain.j0, if_true]; exact Ev.now _
  have hid : impl_isID.f a = some true := by simp [impl_isID.f, impl_in.f, ha.1, ha.2]
  have spec_in : ∀ (out : List Int) (n : Int) (r : List Int), 1 ≤ n → n ≤ 9 → Ev (fun k => spec_WaitChain.l1 k l out n ((0 : Nat) : Int)) r → Ev (fun k => spec_WaitChain.l0 k l out n) r := by
    intro out n r h1 h9 h
    have h0 : n > 0 := by omega
    apply Ev.succ
    simp only [spec_WaitChain.l0, h0, if_true]
    refine Ev.bind eA ?_
    simp only [h9, if_true, decide_true]
    apply Ev.succ
    simp only [spec_WaitChain.j1, if_true]; exact h
  have key : ∀ (m : Nat) (out : List Int) (n : Int), out.length + m ≤ 9 → free out ≤ m → n ∉ out → 1 ≤ n → n ≤ 9 → ∃ r, Ev (fun k => spec_WaitChain.l0 k l out n) r ∧ Ev (fun k => impl_WaitChain.l0 k l (out ++ [n])) r ∧ r.length ≤ 10 := by
    intro m
    induction m with
    | zero => intro out n _ hf hn h1 h9; have := free_lt out n h1 h9 hn; omega
    | succ m ih =>
      intro out n hlen hf hn h1 h9
      have hfree := free_lt out n h1 h9 hn
      obtain ⟨f, q, eF, eQ, hR⟩ := both_For l out n hl (by omega)
      rcases hR with ⟨hq, rfl⟩ | ⟨hq, hql, hfv⟩
      · refine ⟨out ++ [n], spec_in out n _ h1 h9 (ev_l1_out l out n 0 _ (by omega) hn eF ?_), Ev.succ ?_, by simp; omega⟩
        · apply Ev.succ
          simp only [spec_WaitChain.l0, gt_iff_lt, Int.lt_irrefl, if_false]
          apply Ev.succ
          simp only [spec_WaitChain.j1, Bool.false_eq_true, if_false]; exact Ev.now _
        · simp only [impl_WaitChain.l0]
          refine Ev.bind eQ ?_
          simp only [hq, if_true]; exact Ev.now _
      · have hfr : 1 ≤ f ∧ f ≤ 9 := by
          obtain ⟨j, rfl⟩ := Int.eq_ofNat_of_zero_le hq
          rw [hfv]; exact (hA j (by omega)).2.1
        have hq' : ¬ q < 0 := by omega
        have hol : (out ++ [n]).length < 17592186044416 := by simp; omega
        have eC := ev_contains_int (out ++ [n]) f (by simp; omega)
        by_cases hm : f ∈ out ++ [n]
        · refine ⟨(out ++ [n]) ++ [f], spec_in out n _ h1 h9 (ev_l1_out l out n f _ (by omega) hn eF (spec_in _ _ _ hfr.1 hfr.2 (ev_l1_in l _ f (by simp; omega) hm))), Ev.succ ?_, by simp; omega⟩
          simp only [impl_WaitChain.l0]
          refine Ev.bind eQ ?_
          simp only [hq, hq', hql, ← hfv, if_true, if_false]
          refine Ev.bind eC ?_
          simp only [hm, hol, decide_true, if_true, Option.bind_some]; exact Ev.now _
        · obtain ⟨r, e1, e2, hr⟩ := ih (out ++ [n]) f (by simp; omega) (by omega) hm hfr.1 hfr.2
          refine ⟨r, spec_in out n _ h1 h9 (ev_l1_out l out n f _ (by omega) hn eF e1), Ev.succ ?_, hr⟩
          simp only [impl_WaitChain.l0]
          refine Ev.bind eQ ?_
          simp only [hq, hq', hql, ← hfv, if_true, if_false]
          refine Ev.bind eC ?_
          simp only [hm, hol, decide_false, if_true, if_false, Option.bind_some, Bool.false_eq_true]; exact e2
  obtain ⟨r, e1, e2, hr⟩ := key 9 [] a (by simp) (by simp [free, nine]) (by simp) ha.1 ha.2
  refine ⟨r, e1, ?_, hr⟩
  unfold impl_WaitChain.f
  refine Ev.bind eA' ?_
  simp only [hid, if_true, Option.bind_some, Bool.not_true]
  apply Ev.succ
  simp only [impl_WaitChain.j0, Bool.false_eq_true, if_false]; exact e2
theorem FnExactWaitChain : ∀ (x0 : List (S87)) (x1 : Int), (okRow PFnExactWaitChain.g87) x0 → (okInt .i64) x1 → ∃ k, laws_FnExactWaitChain.f k x0 x1 = some true := by
  intro l a hl _
  have hm : l.length ≤ 9223372036854775807 := by have := hl.1; simp only [maxLen] at this; omega
  apply Ev.rounds
  unfold laws_FnExactWaitChain.f
  simp only [sz_WaitS l 1048576 (by omega) (by omega) hm, Option.bind_some]
  by_cases h : (1048576 : Int) < l.length
  · simp only [h, if_true]
    exact Ev.some rfl
  · have hs : l.length ≤ 1048576 := by omega
    have h0 : ¬ ((1048576 : Int) - l.length < 0) := by omega
    simp only [h, h0, if_false]
    obtain ⟨r, e1, e2, hr⟩ := both_WaitChain (l.map cvWait) a (by simpa using hs)
    refine Ev.bind (ev_toWaitS l hs) (Ev.bind e1 (Ev.bind (ev_toWaitS l hs) (Ev.bind e2 (Ev.bind (ev_eqIntS r (by omega)) ?_))))
    simp only [if_true]
    refine Ev.bind (ev_toWaitS l hs) (Ev.bind (ev_eqWaitS _ (by simpa using hm)) ?_)
    simp only [if_true]
    refine Ev.bind (ev_markWaitS _ (by simp; omega)) ?_
    have hx : ¬ ((1 : Int) + 2 * ((l.map cvWait).length : Int) < 0) := by omega
    simp only [hx, if_false]
    refine Ev.bind (ev_eqIntS r (by omega)) ?_
    simp only [Bool.not_true]
    apply Ev.succ
    simp only [laws_FnExactWaitChain.j0, Bool.false_eq_true, if_false]
    refine Ev.bind (ev_markIntS r (by omega)) (Ev.bind (ev_heldIntS _ (by omega)) ?_)
    have hy : ¬ ((1 : Int) + 1 * (r.length : Int) < 0) := by omega
    simp only [hy, if_false, if_true]
    refine Ev.bind (ev_toWaitS l hs) (Ev.bind e2 (Ev.bind (ev_eqIntS r (by omega)) ?_))
    simp only [if_true]
    refine Ev.bind (ev_heldIntS _ (by omega)) ?_
    simp only [hy, if_false, if_true]
    exact Ev.some rfl

end Go.Proofs.Ytaopeedfmhmfgaa.Pure
