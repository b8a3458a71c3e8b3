/- The plain statement of FnExactMergePrograms: both functions take the same operations in the same order, and marks in the result are held. Condition: the rows' lengths are at most maxLen. -/
import Derived.Test.YtpiaeinfneoioaaGoodFnExactMergePrograms
import Derived.Test.YtpiaeinfneoioaaPlain
namespace Go.Proofs.Ytpiaeinfneoioaa.Pure
open Go.RowKit Go.Proofs.Ytpiaeinfneoioaa.PFnExactMergePrograms Go.Proofs.YtpiaeinfneoioaaW.PrintWords Go.Proofs.YtpiaeinfneoioaaW.PrintLast Go.Proofs.Ytpiaeinfneoioaa.OpenK Go.Proofs.Ytpiaeinfneoioaa.Plain
set_option linter.unusedVariables false
set_option linter.unusedSimpArgs false

theorem sz_OpS (l : List S200) (a : Int) (h0 : 0 ≤ a) (h1 : a ≤ 1048576) (hl : l.length ≤ 9223372036854775807) : laws_szOpS.f l a = some (if a < l.length then -1 else a - l.length) := by
  unfold laws_szOpS.f
  rw [wrap_in (by omega) (by omega)]
  by_cases h : a < l.length
  · rw [if_pos (by omega), if_pos h]
  · rw [if_neg (by omega), if_neg h]

theorem szx_Op (l : List S200) (a : Int) (h0 : 0 ≤ a) (h1 : a ≤ 1048576) (hl : l.length ≤ 9223372036854775807) : ∃ r, Ev (fun _ => laws_szOpS.f l a) r ∧ r ≤ a ∧ (0 ≤ r → l.length ≤ 1048576) := by
  rw [sz_OpS l a h0 h1 hl]
  refine ⟨_, Ev.now _, ?_, ?_⟩ <;> split <;> omega

def cvOp (x : S200) : S138 := ⟨x.f0, x.f1, x.f2, x.f3, x.f4, x.f5⟩
theorem ev_toOpS (l : List S200) (hl : l.length ≤ 1048576) : Ev (fun k => laws_toOpS.f k l) (l.map cvOp) := by
  have h : Ev (fun k => laws_toOpS.l0 k l (List.replicate l.length z138) ((0 : Nat) : Int)) (l.map cvOp) := by
    refine ev_up (σ := List S138) (fun ys i k => laws_toOpS.l0 k l ys (i : Int)) l.length (fun ys i => Filled (l.map cvOp) ys i) (fun _ _ => l.map cvOp) ?_ ?_ (List.replicate l.length z138) 0 (Nat.zero_le _) (Filled.start _ _ (by simp))
    · intro ys i hi hI ih
      apply Ev.succ
      have h1 : (i : Int) < (l.length : Int) := by omega
      have h2 : (i : Int) < (ys.length : Int) := by have := hI.1; simp at this; omega
      simp only [laws_toOpS.l0, laws_toOp.f, Option.bind_some, h1, h2, Int.natCast_nonneg, if_true, Int.toNat_natCast, wrap_up hi (by omega)]
      exact ih _ (hI.step (by simpa using hi) (by simp [cvOp, rd_T200, hi]))
    · intro ys hI
      apply Ev.succ
      simp only [laws_toOpS.l0, Int.lt_irrefl, if_false]
      exact Ev.some (Filled.done (by simpa using hI))
  unfold laws_toOpS.f
  have h3 : ((l.length : Int) : Int).toNat ≤ 5864062014805 := by omega
  simp only [Int.natCast_nonneg, if_true, h3]
  simpa using h

theorem ev_eqIntS (l : List Int) (hl : l.length ≤ 9223372036854775807) : Ev (fun k => laws_eqIntS.f k l l) true := by
  have h : Ev (fun k => laws_eqIntS.l0 k l l ((0 : Nat) : Int)) true := by
    refine ev_up (σ := Unit) (fun _ i k => laws_eqIntS.l0 k l l (i : Int)) l.length (fun _ _ => True) (fun _ _ => true) ?_ ?_ () 0 (Nat.zero_le _) trivial
    · intro ys i hi hI ih
      apply Ev.succ
      have h1 : (i : Int) < (l.length : Int) := by omega
      simp only [laws_eqIntS.l0, Option.bind_some, h1, Int.natCast_nonneg, if_true, wrap_up hi hl]
      exact ih () trivial
    · intro ys hI
      apply Ev.succ
      simp only [laws_eqIntS.l0, Int.lt_irrefl, if_false]
      exact Ev.now _
  unfold laws_eqIntS.f
  simp only [if_true]
  exact h

theorem ev_eqOpS (l : List S138) (hl : l.length ≤ 9223372036854775807) : Ev (fun k => laws_eqOpS.f k l l) true := by
  have h : Ev (fun k => laws_eqOpS.l0 k l l ((0 : Nat) : Int)) true := by
    refine ev_up (σ := Unit) (fun _ i k => laws_eqOpS.l0 k l l (i : Int)) l.length (fun _ _ => True) (fun _ _ => true) ?_ ?_ () 0 (Nat.zero_le _) trivial
    · intro ys i hi hI ih
      apply Ev.succ
      have h1 : (i : Int) < (l.length : Int) := by omega
      simp only [laws_eqOpS.l0, laws_eqOp.f, Option.bind_some, h1, Int.natCast_nonneg, if_true, wrap_up hi hl]
      exact ih () trivial
    · intro ys hI
      apply Ev.succ
      simp only [laws_eqOpS.l0, Int.lt_irrefl, if_false]
      exact Ev.now _
  unfold laws_eqOpS.f
  simp only [if_true]
  exact h

theorem ev_toIntS (l : List Int) (hl : l.length ≤ 1048576) : Ev (fun k => laws_toIntS.f k l) l := by
  have h : Ev (fun k => laws_toIntS.l0 k l (List.replicate l.length 0) ((0 : Nat) : Int)) l := by
    refine ev_up (σ := List Int) (fun ys i k => laws_toIntS.l0 k l ys (i : Int)) l.length (fun ys i => Filled l ys i) (fun _ _ => l) ?_ ?_ (List.replicate l.length 0) 0 (Nat.zero_le _) (Filled.start _ _ (by simp))
    · intro ys i hi hI ih
      apply Ev.succ
      have h1 : (i : Int) < (l.length : Int) := by omega
      have h2 : (i : Int) < (ys.length : Int) := by have := hI.1; omega
      simp only [laws_toIntS.l0, h1, h2, Int.natCast_nonneg, if_true, Int.toNat_natCast, wrap_up hi (by omega)]
      exact ih _ (hI.step hi (by simp [rd, hi]))
    · intro ys hI
      apply Ev.succ
      simp only [laws_toIntS.l0, Int.lt_irrefl, if_false]
      exact Ev.some (Filled.done hI)
  unfold laws_toIntS.f
  have h3 : ((l.length : Int) : Int).toNat ≤ 35184372088832 := by omega
  simp only [Int.natCast_nonneg, if_true, h3]
  simpa using h

theorem sz_OpSS (l : List (List S200)) (a : Int) (h0 : 0 ≤ a) (h1 : a ≤ 1048576) (hl : l.length ≤ 9223372036854775807) (hg : ∀ e ∈ l, e.length ≤ 9223372036854775807) : ∃ r, Ev (fun k => laws_szOpSS.f k l a) r ∧ r ≤ a ∧ (0 ≤ r → (l.length ≤ 1048576 ∧ ∀ e ∈ l, e.length ≤ 1048576)) := by
  unfold laws_szOpSS.f
  rw [wrap_in (by omega) (by omega)]
  by_cases h : a - (l.length : Int) < 0
  · simp only [h, if_true]; exact ⟨-1, Ev.now _, by omega, fun h => absurd h (by omega)⟩
  simp only [h, if_false]
  refine ev_to (σ := Int) (fun s i k => laws_szOpSS.l0 k l s (i : Int)) l.length (fun s i => 0 ≤ s ∧ s ≤ a ∧ ∀ j (hj : j < l.length), j < i → l[j].length ≤ 1048576) (fun r => r ≤ a ∧ (0 ≤ r → (l.length ≤ 1048576 ∧ ∀ e ∈ l, e.length ≤ 1048576))) ?_ ?_ (a - (l.length : Int)) 0 (Nat.zero_le _) ⟨by omega, by omega, fun j hj h => absurd h (by omega)⟩
  · intro s i hi ⟨hs, hsa, hI⟩ ih
    have h2 : (i : Int) < (l.length : Int) := by omega
    have hrd : rd_L2 l (i : Int) = l[i] := by simp [rd_L2, hi]
    obtain ⟨r, e, hr, hf⟩ := szx_Op (rd_L2 l (i : Int)) s hs (by omega) (by rw [hrd]; exact hg _ (List.getElem_mem hi))
    by_cases c : r < 0
    · refine ⟨-1, Ev.succ ?_, by omega, fun h => absurd h (by omega)⟩
      simp only [laws_szOpSS.l0, h2, Int.natCast_nonneg, if_true]
      exact Ev.bind e (by simp only [c, if_true]; exact Ev.now _)
    · obtain ⟨r', e', h'⟩ := ih r ⟨by omega, by omega, fun j hj hji => if hh : j < i then hI j hj hh else by obtain rfl : j = i := (by omega); rw [← hrd]; exact hf (by omega)⟩
      refine ⟨r', Ev.succ ?_, h'⟩
      simp only [laws_szOpSS.l0, h2, Int.natCast_nonneg, if_true]
      exact Ev.bind e (by simp only [c, if_false, wrap_up hi (by omega)]; exact e')
  · intro s ⟨hs, hsa, hI⟩
    refine ⟨s, Ev.succ ?_, hsa, fun _ => ⟨by omega, fun e he => ?_⟩⟩
    · simp only [laws_szOpSS.l0, Int.lt_irrefl, if_false]; exact Ev.now _
    · obtain ⟨j, hj, rfl⟩ := List.getElem_of_mem he
      exact hI j hj hj

theorem ev_toOpSS (l : List (List S200)) (h : l.length ≤ 1048576 ∧ ∀ e ∈ l, e.length ≤ 1048576) : Ev (fun k => laws_toOpSS.f k l) (l.map (List.map cvOp)) := by
  have hl := h.1
  have hh : Ev (fun k => laws_toOpSS.l0 k l (List.replicate l.length []) ((0 : Nat) : Int)) (l.map (List.map cvOp)) := by
    refine ev_up (σ := List (List S138)) (fun ys i k => laws_toOpSS.l0 k l ys (i : Int)) l.length (fun ys i => Filled (l.map (List.map cvOp)) ys i) (fun _ _ => l.map (List.map cvOp)) ?_ ?_ (List.replicate l.length []) 0 (Nat.zero_le _) (Filled.start _ _ (by simp))
    · intro ys i hi hI ih
      apply Ev.succ
      have h1 : (i : Int) < (l.length : Int) := by omega
      have h2 : (i : Int) < (ys.length : Int) := by have := hI.1; simp at this; omega
      have hrd : rd_L2 l (i : Int) = l[i] := by simp [rd_L2, hi]
      simp only [laws_toOpSS.l0, h1, Int.natCast_nonneg, if_true]
      refine Ev.bind (ev_toOpS _ (by rw [hrd]; exact h.2 _ (List.getElem_mem hi))) ?_
      simp only [h2, if_true, Int.toNat_natCast, wrap_up hi (by omega)]
      exact ih _ (hI.step (by simpa using hi) (by simp [hrd]))
    · intro ys hI
      apply Ev.succ
      simp only [laws_toOpSS.l0, Int.lt_irrefl, if_false]
      exact Ev.some (Filled.done (by simpa using hI))
  unfold laws_toOpSS.f
  have h3 : ((l.length : Int) : Int).toNat ≤ 11728124029610 := by omega
  simp only [Int.natCast_nonneg, if_true, h3]
  simpa using hh

theorem ev_eqOpSS (l : List (List S138)) (h : l.length ≤ 1048576 ∧ ∀ e ∈ l, e.length ≤ 1048576) : Ev (fun k => laws_eqOpSS.f k l l) true := by
  have hl := h.1
  have hh : Ev (fun k => laws_eqOpSS.l0 k l l ((0 : Nat) : Int)) true := by
    refine ev_up (σ := Unit) (fun _ i k => laws_eqOpSS.l0 k l l (i : Int)) l.length (fun _ _ => True) (fun _ _ => true) ?_ ?_ () 0 (Nat.zero_le _) trivial
    · intro ys i hi hI ih
      apply Ev.succ
      have h1 : (i : Int) < (l.length : Int) := by omega
      have hrd : rd_L4 l (i : Int) = l[i] := by simp [rd_L4, hi]
      simp only [laws_eqOpSS.l0, h1, Int.natCast_nonneg, if_true]
      refine Ev.bind (ev_eqOpS _ (by rw [hrd]; have := h.2 _ (List.getElem_mem hi); omega)) ?_
      simp only [if_true, wrap_up hi (by omega)]
      exact ih () trivial
    · intro ys hI
      apply Ev.succ
      simp only [laws_eqOpSS.l0, Int.lt_irrefl, if_false]
      exact Ev.now _
  unfold laws_eqOpSS.f
  simp only [if_true]
  exact hh

def mkInt : Int → Int := (fun a : Int => a)
theorem ev_markIntS (l : List Int) (hl : l.length ≤ 4194304) : Ev (fun k => laws_markIntS.f k l 1) (1 + 1 * (l.length : Int), markL mkInt 1 l.length 1) := by
  have h : Ev (fun k => laws_markIntS.l0 k l 1 ((0 : Nat) : Int)) (1 + 1 * (l.length : Int), markL mkInt 1 l.length 1) := by
    refine ev_up (σ := List Int × Int) (fun s i k => laws_markIntS.l0 k s.1 s.2 (i : Int)) l.length (fun s i => Filled (markL mkInt 1 l.length 1) s.1 i ∧ s.2 = 1 + 1 * (i : Int)) (fun _ _ => (1 + 1 * (l.length : Int), markL mkInt 1 l.length 1)) ?_ ?_ (l, 1) 0 (Nat.zero_le _) ⟨Filled.start _ _ (by simp [markL_length]), by simp⟩
    · rintro ⟨ys, a⟩ i hi ⟨hI, ha⟩ ih
      apply Ev.succ
      dsimp only at ha hI ⊢
      have hly : ys.length = l.length := by have := hI.1; simpa [markL_length] using this
      have h1 : (i : Int) < (ys.length : Int) := by omega
      have hiy : i < ys.length := by omega
      have w0 : wrap64 (a + 1) = a + 1 := wrap_in (by omega) (by omega)
      have hr := ih (ys.set i (mkInt a), a + 1) ⟨hI.step (by simpa [markL_length] using hi) (by rw [markL_get, ha]; rfl), by dsimp only; omega⟩
      dsimp only at hr
      simp only [laws_markIntS.l0, Option.bind_some, h1, Int.natCast_nonneg, if_true, Int.toNat_natCast, wrap_up hi (by omega), w0]
      simpa [mkInt, hiy] using hr
    · rintro ⟨ys, a⟩ ⟨hI, ha⟩
      apply Ev.succ
      dsimp only at ha hI ⊢
      have hly : ys.length = l.length := by have := hI.1; simpa [markL_length] using this
      have h1 : ¬ ((l.length : Int) < (ys.length : Int)) := by omega
      simp only [laws_markIntS.l0, h1, if_false]
      have hd : ys = markL mkInt 1 l.length 1 := Filled.done (by rw [markL_length]; exact hI)
      exact Ev.some (by rw [ha, hd])
  exact h

def mkOp : Int → S138 := (fun a : Int => (⟨a, a + 1, a + 2, a + 3, a + 4, a + 5⟩ : S138))
theorem ev_markOpS (l : List S138) (hl : l.length ≤ 4194304) : Ev (fun k => laws_markOpS.f k l 1) (1 + 6 * (l.length : Int), markL mkOp 6 l.length 1) := by
  have h : Ev (fun k => laws_markOpS.l0 k l 1 ((0 : Nat) : Int)) (1 + 6 * (l.length : Int), markL mkOp 6 l.length 1) := by
    refine ev_up (σ := List S138 × Int) (fun s i k => laws_markOpS.l0 k s.1 s.2 (i : Int)) l.length (fun s i => Filled (markL mkOp 6 l.length 1) s.1 i ∧ s.2 = 1 + 6 * (i : Int)) (fun _ _ => (1 + 6 * (l.length : Int), markL mkOp 6 l.length 1)) ?_ ?_ (l, 1) 0 (Nat.zero_le _) ⟨Filled.start _ _ (by simp [markL_length]), by simp⟩
    · rintro ⟨ys, a⟩ i hi ⟨hI, ha⟩ ih
      apply Ev.succ
      dsimp only at ha hI ⊢
      have hly : ys.length = l.length := by have := hI.1; simpa [markL_length] using this
      have h1 : (i : Int) < (ys.length : Int) := by omega
      have hiy : i < ys.length := by omega
      have w0 : wrap64 (a + 1) = a + 1 := wrap_in (by omega) (by omega)
      have w1 : wrap64 (a + 2) = a + 2 := wrap_in (by omega) (by omega)
      have w2 : wrap64 (a + 3) = a + 3 := wrap_in (by omega) (by omega)
      have w3 : wrap64 (a + 4) = a + 4 := wrap_in (by omega) (by omega)
      have w4 : wrap64 (a + 5) = a + 5 := wrap_in (by omega) (by omega)
      have w5 : wrap64 (a + 6) = a + 6 := wrap_in (by omega) (by omega)
      have hr := ih (ys.set i (mkOp a), a + 6) ⟨hI.step (by simpa [markL_length] using hi) (by rw [markL_get, ha]; rfl), by dsimp only; omega⟩
      dsimp only at hr
      simp only [laws_markOpS.l0, Option.bind_some, h1, Int.natCast_nonneg, if_true, Int.toNat_natCast, wrap_up hi (by omega), w0, w1, w2, w3, w4, w5, show a + 1 + 1 = a + 2 from by omega, show a + 2 + 1 = a + 3 from by omega, show a + 3 + 1 = a + 4 from by omega, show a + 4 + 1 = a + 5 from by omega, show a + 5 + 1 = a + 6 from by omega]
      simpa [mkOp, rd_T138, hiy] using hr
    · rintro ⟨ys, a⟩ ⟨hI, ha⟩
      apply Ev.succ
      dsimp only at ha hI ⊢
      have hly : ys.length = l.length := by have := hI.1; simpa [markL_length] using this
      have h1 : ¬ ((l.length : Int) < (ys.length : Int)) := by omega
      simp only [laws_markOpS.l0, h1, if_false]
      have hd : ys = markL mkOp 6 l.length 1 := Filled.done (by rw [markL_length]; exact hI)
      exact Ev.some (by rw [ha, hd])
  exact h
theorem ev_heldOpS (n : Nat) (hn : n ≤ 4194304) : Ev (fun k => laws_heldOpS.f k (markL mkOp 6 n 1) 1) (1 + 6 * (n : Int)) := by
  have h : Ev (fun k => laws_heldOpS.l0 k (markL mkOp 6 n 1) 1 ((0 : Nat) : Int)) (1 + 6 * (n : Int)) := by
    refine ev_up (σ := Int) (fun a i k => laws_heldOpS.l0 k (markL mkOp 6 n 1) a (i : Int)) n (fun a i => a = 1 + 6 * (i : Int)) (fun _ _ => 1 + 6 * (n : Int)) ?_ ?_ 1 0 (Nat.zero_le _) (by simp)
    · intro a i hi ha ih
      apply Ev.succ
      have h1 : (i : Int) < ((markL mkOp 6 n 1).length : Int) := by rw [markL_length]; omega
      have hiy : i < (markL mkOp 6 n 1).length := by rw [markL_length]; omega
      have hg : (markL mkOp 6 n 1)[i] = mkOp a := by rw [markL_get, ha]; rfl
      have w0 : wrap64 (a + 1) = a + 1 := wrap_in (by omega) (by omega)
      have w1 : wrap64 (a + 2) = a + 2 := wrap_in (by omega) (by omega)
      have w2 : wrap64 (a + 3) = a + 3 := wrap_in (by omega) (by omega)
      have w3 : wrap64 (a + 4) = a + 4 := wrap_in (by omega) (by omega)
      have w4 : wrap64 (a + 5) = a + 5 := wrap_in (by omega) (by omega)
      have w5 : wrap64 (a + 6) = a + 6 := wrap_in (by omega) (by omega)
      have hr := ih (a + 6) (by omega)
      have hrd : rd_T138 (markL mkOp 6 n 1) (i : Int) = mkOp a := by rw [← hg]; simp [rd_T138, hiy]
      simp only [laws_heldOpS.l0, h1, Int.natCast_nonneg, if_true, hrd, wrap_up hi (by omega), w0, w1, w2, w3, w4, w5, show a + 1 + 1 = a + 2 from by omega, show a + 2 + 1 = a + 3 from by omega, show a + 3 + 1 = a + 4 from by omega, show a + 4 + 1 = a + 5 from by omega, show a + 5 + 1 = a + 6 from by omega]
      simpa [mkOp] using hr
    · intro a ha
      apply Ev.succ
      have h1 : ¬ ((n : Int) < ((markL mkOp 6 n 1).length : Int)) := by rw [markL_length]; omega
      simp only [laws_heldOpS.l0, h1, if_false]
      exact Ev.some ha
  exact h


theorem l1In_eq (a b c : Int) : spec_l1In.f a b c = some (decide (b ≤ a) && decide (a ≤ c)) := by
  by_cases h : b ≤ a <;> simp [spec_l1In.f, h]
theorem in_eq (a b c : Int) : impl_in.f a b c = some (decide (b ≤ a) && decide (a ≤ c)) := by
  by_cases h : b ≤ a <;> simp [impl_in.f, h]
theorem evb_markIntS (l : List Int) (b : Int) (hb0 : 0 ≤ b) (hb : b ≤ 9007199254740992) (hl : l.length ≤ 4194304) : Ev (fun k => laws_markIntS.f k l b) (b + 1 * (l.length : Int), markL mkInt 1 l.length b) := by
  have h : Ev (fun k => laws_markIntS.l0 k l b ((0 : Nat) : Int)) (b + 1 * (l.length : Int), markL mkInt 1 l.length b) := by
    refine ev_up (σ := List Int × Int) (fun s i k => laws_markIntS.l0 k s.1 s.2 (i : Int)) l.length (fun s i => Filled (markL mkInt 1 l.length b) s.1 i ∧ s.2 = b + 1 * (i : Int)) (fun _ _ => (b + 1 * (l.length : Int), markL mkInt 1 l.length b)) ?_ ?_ (l, b) 0 (Nat.zero_le _) ⟨Filled.start _ _ (by simp [markL_length]), by simp⟩
    · rintro ⟨ys, a⟩ i hi ⟨hI, ha⟩ ih
      apply Ev.succ
      dsimp only at ha hI ⊢
      have hly : ys.length = l.length := by have := hI.1; simpa [markL_length] using this
      have h1 : (i : Int) < (ys.length : Int) := by omega
      have hiy : i < ys.length := by omega
      have w0 : wrap64 (a + 1) = a + 1 := wrap_in (by omega) (by omega)
      have hr := ih (ys.set i (mkInt a), a + 1) ⟨hI.step (by simpa [markL_length] using hi) (by rw [markL_get, ha]; rfl), by dsimp only; omega⟩
      dsimp only at hr
      simp only [laws_markIntS.l0, Option.bind_some, h1, Int.natCast_nonneg, if_true, Int.toNat_natCast, wrap_up hi (by omega), w0]
      simpa [mkInt, hiy] using hr
    · rintro ⟨ys, a⟩ ⟨hI, ha⟩
      apply Ev.succ
      dsimp only at ha hI ⊢
      have hly : ys.length = l.length := by have := hI.1; simpa [markL_length] using this
      have h1 : ¬ ((l.length : Int) < (ys.length : Int)) := by omega
      simp only [laws_markIntS.l0, h1, if_false]
      have hd : ys = markL mkInt 1 l.length b := Filled.done (by rw [markL_length]; exact hI)
      exact Ev.some (by rw [ha, hd])
  exact h
theorem evb_markOpS (l : List S138) (b : Int) (hb0 : 0 ≤ b) (hb : b ≤ 9007199254740992) (hl : l.length ≤ 4194304) : Ev (fun k => laws_markOpS.f k l b) (b + 6 * (l.length : Int), markL mkOp 6 l.length b) := by
  have h : Ev (fun k => laws_markOpS.l0 k l b ((0 : Nat) : Int)) (b + 6 * (l.length : Int), markL mkOp 6 l.length b) := by
    refine ev_up (σ := List S138 × Int) (fun s i k => laws_markOpS.l0 k s.1 s.2 (i : Int)) l.length (fun s i => Filled (markL mkOp 6 l.length b) s.1 i ∧ s.2 = b + 6 * (i : Int)) (fun _ _ => (b + 6 * (l.length : Int), markL mkOp 6 l.length b)) ?_ ?_ (l, b) 0 (Nat.zero_le _) ⟨Filled.start _ _ (by simp [markL_length]), by simp⟩
    · rintro ⟨ys, a⟩ i hi ⟨hI, ha⟩ ih
      apply Ev.succ
      dsimp only at ha hI ⊢
      have hly : ys.length = l.length := by have := hI.1; simpa [markL_length] using this
      have h1 : (i : Int) < (ys.length : Int) := by omega
      have hiy : i < ys.length := by omega
      have w0 : wrap64 (a + 1) = a + 1 := wrap_in (by omega) (by omega)
      have w1 : wrap64 (a + 2) = a + 2 := wrap_in (by omega) (by omega)
      have w2 : wrap64 (a + 3) = a + 3 := wrap_in (by omega) (by omega)
      have w3 : wrap64 (a + 4) = a + 4 := wrap_in (by omega) (by omega)
      have w4 : wrap64 (a + 5) = a + 5 := wrap_in (by omega) (by omega)
      have w5 : wrap64 (a + 6) = a + 6 := wrap_in (by omega) (by omega)
      have hr := ih (ys.set i (mkOp a), a + 6) ⟨hI.step (by simpa [markL_length] using hi) (by rw [markL_get, ha]; rfl), by dsimp only; omega⟩
      dsimp only at hr
      simp only [laws_markOpS.l0, Option.bind_some, h1, Int.natCast_nonneg, if_true, Int.toNat_natCast, wrap_up hi (by omega), w0, w1, w2, w3, w4, w5, show a + 1 + 1 = a + 2 from by omega, show a + 2 + 1 = a + 3 from by omega, show a + 3 + 1 = a + 4 from by omega, show a + 4 + 1 = a + 5 from by omega, show a + 5 + 1 = a + 6 from by omega]
      simpa [mkOp, rd_T138, hiy] using hr
    · rintro ⟨ys, a⟩ ⟨hI, ha⟩
      apply Ev.succ
      dsimp only at ha hI ⊢
      have hly : ys.length = l.length := by have := hI.1; simpa [markL_length] using this
      have h1 : ¬ ((l.length : Int) < (ys.length : Int)) := by omega
      simp only [laws_markOpS.l0, h1, if_false]
      have hd : ys = markL mkOp 6 l.length b := Filled.done (by rw [markL_length]; exact hI)
      exact Ev.some (by rw [ha, hd])
  exact h
theorem ev_markOpSS (l : List (List S138)) (hl : l.length ≤ 1048576) (he : ∀ e ∈ l, e.length ≤ 1048576) : ∃ r, Ev (fun k => laws_markOpSS.f k l 1) r ∧ (1 ≤ r ∧ r ≤ 1 + 6291456 * (l.length : Int)) := by
  show ∃ r, Ev (fun k => laws_markOpSS.l0 k l 1 ((0 : Nat) : Int)) r ∧ (1 ≤ r ∧ r ≤ 1 + 6291456 * (l.length : Int))
  refine ev_to (σ := List (List S138) × Int) (fun s i k => laws_markOpSS.l0 k s.1 s.2 (i : Int)) l.length (fun s i => s.1.length = l.length ∧ (∀ e ∈ s.1, e.length ≤ 1048576) ∧ 1 ≤ s.2 ∧ s.2 ≤ 1 + 6291456 * (i : Int)) (fun r => 1 ≤ r ∧ r ≤ 1 + 6291456 * (l.length : Int)) ?_ ?_ (l, 1) 0 (Nat.zero_le _) ⟨rfl, he, by dsimp only; omega, by dsimp only; omega⟩
  · rintro ⟨xs, a⟩ i hi ⟨hlen, hle, ha0, ha1⟩ ih
    dsimp only at hlen hle ha0 ha1 ⊢
    have hix : i < xs.length := by omega
    have h1 : (i : Int) < (xs.length : Int) := by omega
    have hg : xs.getD i [] = xs[i] := getD_lt xs i [] hix
    have hel := hle _ (List.getElem_mem hix)
    have em := evb_markOpS xs[i] a (by omega) (by omega) (by omega)
    obtain ⟨r, h, hR⟩ := ih (xs.set i (markL mkOp 6 xs[i].length a), a + 6 * (xs[i].length : Int)) ⟨by dsimp only; rw [List.length_set]; exact hlen, fun e hm => by
      rcases List.mem_or_eq_of_mem_set hm with hm | rfl
      · exact hle e hm
      · rw [markL_length]; exact hel, by dsimp only; omega, by dsimp only; omega⟩
    refine ⟨r, Ev.succ ?_, hR⟩
    simp only [laws_markOpSS.l0, h1, Int.natCast_nonneg, if_true, Int.toNat_natCast, hg, wrap_up hix (by omega)]
    exact Ev.bind em h
  · rintro ⟨xs, a⟩ ⟨hlen, hle, ha0, ha1⟩
    dsimp only at hlen hle ha0 ha1 ⊢
    refine ⟨a, Ev.succ ?_, ha0, ha1⟩
    have h1 : ¬ (l.length : Int) < (xs.length : Int) := by omega
    simp only [laws_markOpSS.l0, h1, if_false]; exact Ev.now _
theorem both_MergePrograms (l : List (List S138)) (sc : List Int) (hl : l.length ≤ 1048576) (he : ∀ e ∈ l, e.length ≤ 1048576) (hs : sc.length ≤ 1048576) : ∃ r, Ev (fun k => spec_MergePrograms.f k l sc) r ∧ Ev (fun k => impl_MergePrograms.f k l sc) r ∧ r.length ≤ 1048576 := by
  have h : ∃ r, Ev (fun k => spec_MergePrograms.l0 k l sc (List.replicate l.length 0) [] ((0 : Nat) : Int)) r ∧ Ev (fun k => impl_MergePrograms.l0 k l [] (List.replicate l.length 0) sc (sc.length : Int) ((0 : Nat) : Int)) r ∧ r.length ≤ 1048576 := by
    refine ev_both (σ := List Int × List S138) (τ := List Int × List S138) (fun s i k => spec_MergePrograms.l0 k l sc s.1 s.2 (i : Int)) (fun s i k => impl_MergePrograms.l0 k l s.2 s.1 sc (sc.length : Int) (i : Int)) sc.length (fun s t i => s = t ∧ s.1.length = l.length ∧ (∀ x ∈ s.1, 0 ≤ x ∧ x ≤ 1048576) ∧ s.2.length ≤ i) (fun r => r.length ≤ 1048576) ?_ ?_ (List.replicate l.length 0, []) (List.replicate l.length 0, []) 0 (Nat.zero_le _) ⟨rfl, by simp, fun x hx => by rw [List.eq_of_mem_replicate hx]; omega, by simp⟩
    · rintro ⟨at_, out⟩ _ i hi ⟨rfl, hlen, hat, hout⟩ ih
      dsimp only at hlen hat hout ih ⊢
      have h1 : (i : Int) < (sc.length : Int) := by omega
      have e0 := wrap_up hi (by omega)
      have ew : wrap64 ((l.length : Int) - 1) = (l.length : Int) - 1 := wrap_in (by omega) (by omega)
      obtain ⟨v, hv⟩ : ∃ v, v = rd sc (i : Int) := ⟨_, rfl⟩
      by_cases c0 : 0 ≤ v
      · by_cases c1 : v ≤ (l.length : Int) - 1
        · obtain ⟨m, rfl⟩ := Int.eq_ofNat_of_zero_le c0
          have hm : m < l.length := by omega
          have hma : m < at_.length := by omega
          have g1 : (m : Int) < (at_.length : Int) := by omega
          have g2 : (m : Int) < (l.length : Int) := by omega
          have hr : rd at_ (m : Int) = at_[m] := by simp [rd, hma]
          obtain ⟨x0, x1⟩ := hat _ (List.getElem_mem hma)
          have hL : rd_L4 l (m : Int) = l[m] := by simp [rd_L4, hm]
          have hel := he _ (List.getElem_mem hm)
          by_cases c2 : at_[m] < (l[m].length : Int)
          · have g3 : out.length < 2932031007402 := by omega
            have ew2 : wrap64 (at_[m] + 1) = at_[m] + 1 := wrap_in (by omega) (by omega)
            obtain ⟨r, es, et, hR⟩ := ih (at_.set m (at_[m] + 1), out ++ [rd_T138 l[m] at_[m]]) _ ⟨rfl, by dsimp only; rw [List.length_set]; exact hlen, fun x hx => by
              rcases List.mem_or_eq_of_mem_set hx with hx | rfl
              · exact hat x hx
              · omega, by dsimp only; rw [List.length_append, List.length_singleton]; omega⟩
            dsimp only at es et
            refine ⟨r, Ev.succ ?_, Ev.succ ?_, hR⟩
            · simp only [spec_MergePrograms.l0, l1In_eq, ew, h1, ← hv, c0, c1, g1, g2, g3, hr, hL, x0, c2, e0, ew2, Int.natCast_nonneg, Int.toNat_natCast, decide_true, Bool.and_self, if_true, Option.bind_some]; exact es
            · simp only [impl_MergePrograms.l0, in_eq, ew, h1, ← hv, c0, c1, g1, g2, g3, hr, hL, x0, c2, e0, ew2, Int.natCast_nonneg, Int.toNat_natCast, decide_true, Bool.and_self, if_true, Option.bind_some]; exact et
          · obtain ⟨r, es, et, hR⟩ := ih (at_, out) _ ⟨rfl, hlen, hat, by dsimp only; omega⟩
            dsimp only at es et
            refine ⟨r, Ev.succ ?_, Ev.succ ?_, hR⟩
            · simp only [spec_MergePrograms.l0, l1In_eq, ew, h1, ← hv, c0, c1, g1, g2, hr, hL, c2, e0, Int.natCast_nonneg, decide_true, Bool.and_self, if_true, if_false, Option.bind_some]; exact es
            · simp only [impl_MergePrograms.l0, in_eq, ew, h1, ← hv, c0, c1, g1, g2, hr, hL, c2, e0, Int.natCast_nonneg, decide_true, Bool.and_self, if_true, if_false, Option.bind_some]; exact et
        · obtain ⟨r, es, et, hR⟩ := ih (at_, out) _ ⟨rfl, hlen, hat, by dsimp only; omega⟩
          dsimp only at es et
          refine ⟨r, Ev.succ ?_, Ev.succ ?_, hR⟩
          · simp only [spec_MergePrograms.l0, l1In_eq, ew, h1, ← hv, c1, e0, Int.natCast_nonneg, decide_false, Bool.and_false, Bool.false_eq_true, if_true, if_false, Option.bind_some]; exact es
          · simp only [impl_MergePrograms.l0, in_eq, ew, h1, ← hv, c1, e0, Int.natCast_nonneg, decide_false, Bool.and_false, Bool.false_eq_true, if_true, if_false, Option.bind_some]; exact et
      · obtain ⟨r, es, et, hR⟩ := ih (at_, out) _ ⟨rfl, hlen, hat, by dsimp only; omega⟩
        dsimp only at es et
        refine ⟨r, Ev.succ ?_, Ev.succ ?_, hR⟩
        · simp only [spec_MergePrograms.l0, l1In_eq, ew, h1, ← hv, c0, e0, Int.natCast_nonneg, decide_false, Bool.false_and, Bool.false_eq_true, if_true, if_false, Option.bind_some]; exact es
        · simp only [impl_MergePrograms.l0, in_eq, ew, h1, ← hv, c0, e0, Int.natCast_nonneg, decide_false, Bool.false_and, Bool.false_eq_true, if_true, if_false, Option.bind_some]; exact et
    · rintro ⟨at_, out⟩ _ ⟨rfl, hlen, hat, hout⟩
      dsimp only at hout ⊢
      refine ⟨out, Ev.succ ?_, Ev.succ ?_, by omega⟩ <;> (simp only [spec_MergePrograms.l0, impl_MergePrograms.l0, Int.lt_irrefl, if_false]; exact Ev.now _)
  obtain ⟨r, h1, h2, h3⟩ := h
  have hc : l.length ≤ 35184372088832 := by omega
  refine ⟨r, ?_, ?_, h3⟩
  · unfold spec_MergePrograms.f
    simp only [Int.natCast_nonneg, Int.toNat_natCast, hc, if_true]; exact h1
  · unfold impl_MergePrograms.f
    simp only [Int.natCast_nonneg, Int.toNat_natCast, hc, if_true]; exact h2
theorem FnExactMergePrograms : ∀ (x0 : List (List (S200))) (x1 : List (Int)), (okRow (okRow PFnExactMergePrograms.g200)) x0 → (okRow (okInt .i64)) x1 → ∃ k, laws_FnExactMergePrograms.f k x0 x1 = some true := by
  intro l sc hl _
  apply Ev.rounds
  unfold laws_FnExactMergePrograms.f
  by_cases h0 : (sc.length : Int) > 1048576
  · simp only [h0, if_true]; exact Ev.now _
  have hsc : sc.length ≤ 1048576 := by omega
  simp only [h0, if_false]
  obtain ⟨r, e, _, hf⟩ := sz_OpSS l 1048576 (by omega) (by omega) (by have := hl.1; simp only [maxLen] at this; omega) (fun x hx => by have := (hl.2 x hx).1; simp only [maxLen] at this; omega)
  refine Ev.bind e ?_
  by_cases h : r < 0
  · simp only [h, if_true]; exact Ev.now _
  have hs := hf (by omega)
  simp only [h, if_false]
  have hs' : (l.map (List.map cvOp)).length ≤ 1048576 ∧ ∀ e ∈ l.map (List.map cvOp), e.length ≤ 1048576 := ⟨by simpa using hs.1, fun e he => by
    obtain ⟨x, hx, rfl⟩ := List.mem_map.1 he
    simpa using hs.2 x hx⟩
  obtain ⟨r, e1, e2, hr⟩ := both_MergePrograms (l.map (List.map cvOp)) sc hs'.1 hs'.2 hsc
  refine Ev.bind (ev_toOpSS l hs) (Ev.bind (ev_toIntS sc hsc) (Ev.bind e1 (Ev.bind (ev_toOpSS l hs) (Ev.bind (ev_toIntS sc hsc) (Ev.bind e2 (Ev.bind (ev_eqOpS r (by omega)) ?_))))))
  simp only [if_true]
  refine Ev.bind (ev_toOpSS l hs) (Ev.bind (ev_eqOpSS _ hs') ?_)
  simp only [if_true]
  refine Ev.bind (ev_toIntS sc hsc) (Ev.bind (ev_eqIntS sc (by omega)) ?_)
  simp only [if_true]
  obtain ⟨m, em, hm0, hm1⟩ := ev_markOpSS _ hs'.1 hs'.2
  refine Ev.bind em (Ev.bind (evb_markIntS sc m (by omega) (by have := hs'.1; omega) (by omega)) ?_)
  have hx : ¬ (m + 1 * (sc.length : Int) < 0) := by omega
  simp only [hx, if_false]
  refine Ev.bind (ev_eqOpS r (by omega)) ?_
  simp only [Bool.not_true]
  apply Ev.succ
  simp only [laws_FnExactMergePrograms.j0, Bool.false_eq_true, if_false]
  refine Ev.bind (ev_markOpS r (by omega)) (Ev.bind (ev_heldOpS _ (by omega)) ?_)
  have hy : ¬ ((1 : Int) + 6 * (r.length : Int) < 0) := by omega
  simp only [hy, if_false, if_true]
  refine Ev.bind (ev_toOpSS l hs) (Ev.bind (ev_toIntS sc hsc) (Ev.bind e2 (Ev.bind (ev_eqOpS r (by omega)) ?_)))
  simp only [if_true]
  refine Ev.bind (ev_heldOpS _ (by omega)) ?_
  simp only [hy, if_false, if_true]
  exact Ev.some rfl

end Go.Proofs.Ytpiaeinfneoioaa.Pure
