/- The plain statement of FnExactParseHistory: both parsers read the same history, and marks in the result are held. No condition (a text longer than 2^20 bytes is passed over). -/
import Derived.Test.YtdfbmaiboadodaaGreatDoorPFnExactParseHistoryx19
import Derived.Test.YtdfbmaiboadodaaGreatDoorPlainT
namespace Go.Proofs.YtdfbmaiboadodaaGreatDoor.Pure
open Go.RowKit Go.Proofs.YtdfbmaiboadodaaGreatDoor.PFnExactParseHistory Go.Proofs.YtdfbmaiboadodaaGreatDoorW.PrintWords Go.Proofs.YtdfbmaiboadodaaGreatDoorW.PrintLast Go.Proofs.YtdfbmaiboadodaaGreatDoor.Plain
set_option linter.unusedVariables false
set_option linter.unusedSimpArgs false

theorem ev_eqReadMarkS (l : List S48) (hl : l.length ≤ 9223372036854775807) : Ev (fun k => laws_eqReadMarkS.f k l l) true := by
 have h : Ev (fun k => laws_eqReadMarkS.l0 k l l ((0 : Nat) : Int)) true := by
  refine ev_up (σ := Unit) (fun _ i k => laws_eqReadMarkS.l0 k l l (i : Int)) l.length (fun _ _ => True) (fun _ _ => true) ?_ ?_ () 0 (Nat.zero_le _) trivial
  ·intro ys i hi hI ih
   apply Ev.succ
   have h1 : (i : Int) < (l.length : Int) := by omega
   simp only [laws_eqReadMarkS.l0, laws_eqReadMark.f, Option.bind_some, h1, Int.natCast_nonneg, if_true, wrap_up hi hl]
   exact ih () trivial
  ·intro ys hI
   apply Ev.succ
   simp only [laws_eqReadMarkS.l0, Int.lt_irrefl, if_false]
   exact Ev.now _
 unfold laws_eqReadMarkS.f
 simp only [if_true]
 exact h

theorem ev_eqWriteS (l : List S50) (hl : l.length ≤ 9223372036854775807) : Ev (fun k => laws_eqWriteS.f k l l) true := by
 have h : Ev (fun k => laws_eqWriteS.l0 k l l ((0 : Nat) : Int)) true := by
  refine ev_up (σ := Unit) (fun _ i k => laws_eqWriteS.l0 k l l (i : Int)) l.length (fun _ _ => True) (fun _ _ => true) ?_ ?_ () 0 (Nat.zero_le _) trivial
  ·intro ys i hi hI ih
   apply Ev.succ
   have h1 : (i : Int) < (l.length : Int) := by omega
   simp only [laws_eqWriteS.l0, laws_eqWrite.f, Option.bind_some, h1, Int.natCast_nonneg, if_true, wrap_up hi hl]
   exact ih () trivial
  ·intro ys hI
   apply Ev.succ
   simp only [laws_eqWriteS.l0, Int.lt_irrefl, if_false]
   exact Ev.now _
 unfold laws_eqWriteS.f
 simp only [if_true]
 exact h

def fitd_Entry (x : S33) : Prop := x.f2.length ≤ 1048576 ∧ x.f3.length ≤ 1048576
theorem ev_eqEntry (x : S33) (h : fitd_Entry x) : Ev (fun k => laws_eqEntry.f k x.f0 x.f1 x.f2 x.f3 x.f0 x.f1 x.f2 x.f3) true := by
 unfold fitd_Entry at h
 unfold laws_eqEntry.f
 simp only [if_true]
 exact Ev.bind (ev_eqReadMarkS x.f2 (by have := h.1; omega)) (by simp only [if_true]; exact Ev.bind (ev_eqWriteS x.f3 (by have := h.2; omega)) (by simp only [if_true]; exact Ev.now _))

theorem ev_eqEntryS (l : List S33) (h : l.length ≤ 1048576 ∧ ∀ e ∈ l, fitd_Entry e) : Ev (fun k => laws_eqEntryS.f k l l) true := by
 have hl := h.1
 have hh : Ev (fun k => laws_eqEntryS.l0 k l l ((0 : Nat) : Int)) true := by
  refine ev_up (σ := Unit) (fun _ i k => laws_eqEntryS.l0 k l l (i : Int)) l.length (fun _ _ => True) (fun _ _ => true) ?_ ?_ () 0 (Nat.zero_le _) trivial
  ·intro ys i hi hI ih
   apply Ev.succ
   have h1 : (i : Int) < (l.length : Int) := by omega
   have hrd : rd_T33 l (i : Int) = l[i] := by simp [rd_T33, hi]
   simp only [laws_eqEntryS.l0, h1, Int.natCast_nonneg, if_true]
   refine Ev.bind (ev_eqEntry _ (by rw [hrd]; exact h.2 _ (List.getElem_mem hi))) ?_
   simp only [if_true, wrap_up hi (by omega)]
   exact ih () trivial
  ·intro ys hI
   apply Ev.succ
   simp only [laws_eqEntryS.l0, Int.lt_irrefl, if_false]
   exact Ev.now _
 unfold laws_eqEntryS.f
 simp only [if_true]
 exact hh

def mkReadMark : Int → S48 := (fun a : Int => (⟨a, a + 1⟩ : S48))
theorem ev_markReadMarkS (s0 : Int) (hs0 : 0 ≤ s0 ∧ s0 ≤ 1000000000) (l : List S48) (hl : l.length ≤ 4194304) : Ev (fun k => laws_markReadMarkS.f k l s0) (s0 + 2 * (l.length : Int), markL mkReadMark 2 l.length s0) := by
 have h : Ev (fun k => laws_markReadMarkS.l0 k l s0 ((0 : Nat) : Int)) (s0 + 2 * (l.length : Int), markL mkReadMark 2 l.length s0) := by
  refine ev_up (σ := List S48 × Int) (fun s i k => laws_markReadMarkS.l0 k s.1 s.2 (i : Int)) l.length (fun s i => Filled (markL mkReadMark 2 l.length s0) s.1 i ∧ s.2 = s0 + 2 * (i : Int)) (fun _ _ => (s0 + 2 * (l.length : Int), markL mkReadMark 2 l.length s0)) ?_ ?_ (l, s0) 0 (Nat.zero_le _) ⟨Filled.start _ _ (by simp [markL_length]), by simp⟩
  ·rintro ⟨ys, a⟩ i hi ⟨hI, ha⟩ ih
   apply Ev.succ
   dsimp only at ha hI ⊢
   have hly : ys.length = l.length := by have := hI.1; simpa [markL_length] using this
   have h1 : (i : Int) < (ys.length : Int) := by omega
   have hiy : i < ys.length := by omega
   have w0 : wrap64 (a + 1) = a + 1 := wrap_in (by omega) (by omega)
   have w1 : wrap64 (a + 2) = a + 2 := wrap_in (by omega) (by omega)
   have hr := ih (ys.set i (mkReadMark a), a + 2) ⟨hI.step (by simpa [markL_length] using hi) (by rw [markL_get, ha]; rfl), by dsimp only; omega⟩
   dsimp only at hr
   simp only [laws_markReadMarkS.l0, Option.bind_some, h1, Int.natCast_nonneg, if_true, Int.toNat_natCast, wrap_up hi (by omega), w0, w1, show a + 1 + 1 = a + 2 from by omega]
   simpa [mkReadMark, rd_T48, hiy] using hr
  ·rintro ⟨ys, a⟩ ⟨hI, ha⟩
   apply Ev.succ
   dsimp only at ha hI ⊢
   have hly : ys.length = l.length := by have := hI.1; simpa [markL_length] using this
   have h1 : ¬ ((l.length : Int) < (ys.length : Int)) := by omega
   simp only [laws_markReadMarkS.l0, h1, if_false]
   have hd : ys = markL mkReadMark 2 l.length s0 := Filled.done (by rw [markL_length]; exact hI)
   exact Ev.some (by rw [ha, hd])
 exact h
theorem ev_heldReadMarkS (s0 : Int) (hs0 : 0 ≤ s0 ∧ s0 ≤ 1000000000) (n : Nat) (hn : n ≤ 4194304) : Ev (fun k => laws_heldReadMarkS.f k (markL mkReadMark 2 n s0) s0) (s0 + 2 * (n : Int)) := by
 have h : Ev (fun k => laws_heldReadMarkS.l0 k (markL mkReadMark 2 n s0) s0 ((0 : Nat) : Int)) (s0 + 2 * (n : Int)) := by
  refine ev_up (σ := Int) (fun a i k => laws_heldReadMarkS.l0 k (markL mkReadMark 2 n s0) a (i : Int)) n (fun a i => a = s0 + 2 * (i : Int)) (fun _ _ => s0 + 2 * (n : Int)) ?_ ?_ s0 0 (Nat.zero_le _) (by simp)
  ·intro a i hi ha ih
   apply Ev.succ
   have h1 : (i : Int) < ((markL mkReadMark 2 n s0).length : Int) := by rw [markL_length]; omega
   have hiy : i < (markL mkReadMark 2 n s0).length := by rw [markL_length]; omega
   have hg : (markL mkReadMark 2 n s0)[i] = mkReadMark a := by rw [markL_get, ha]; rfl
   have w0 : wrap64 (a + 1) = a + 1 := wrap_in (by omega) (by omega)
   have w1 : wrap64 (a + 2) = a + 2 := wrap_in (by omega) (by omega)
   have hr := ih (a + 2) (by omega)
   have hrd : rd_T48 (markL mkReadMark 2 n s0) (i : Int) = mkReadMark a := by rw [← hg]; simp [rd_T48, hiy]
   simp only [laws_heldReadMarkS.l0, h1, Int.natCast_nonneg, if_true, hrd, wrap_up hi (by omega), w0, w1, show a + 1 + 1 = a + 2 from by omega]
   simpa [mkReadMark] using hr
  ·intro a ha
   apply Ev.succ
   have h1 : ¬ ((n : Int) < ((markL mkReadMark 2 n s0).length : Int)) := by rw [markL_length]; omega
   simp only [laws_heldReadMarkS.l0, h1, if_false]
   exact Ev.some ha
 exact h

def mkWrite : Int → S50 := (fun a : Int => (⟨a, a + 1⟩ : S50))
theorem ev_markWriteS (s0 : Int) (hs0 : 0 ≤ s0 ∧ s0 ≤ 1000000000) (l : List S50) (hl : l.length ≤ 4194304) : Ev (fun k => laws_markWriteS.f k l s0) (s0 + 2 * (l.length : Int), markL mkWrite 2 l.length s0) := by
 have h : Ev (fun k => laws_markWriteS.l0 k l s0 ((0 : Nat) : Int)) (s0 + 2 * (l.length : Int), markL mkWrite 2 l.length s0) := by
  refine ev_up (σ := List S50 × Int) (fun s i k => laws_markWriteS.l0 k s.1 s.2 (i : Int)) l.length (fun s i => Filled (markL mkWrite 2 l.length s0) s.1 i ∧ s.2 = s0 + 2 * (i : Int)) (fun _ _ => (s0 + 2 * (l.length : Int), markL mkWrite 2 l.length s0)) ?_ ?_ (l, s0) 0 (Nat.zero_le _) ⟨Filled.start _ _ (by simp [markL_length]), by simp⟩
  ·rintro ⟨ys, a⟩ i hi ⟨hI, ha⟩ ih
   apply Ev.succ
   dsimp only at ha hI ⊢
   have hly : ys.length = l.length := by have := hI.1; simpa [markL_length] using this
   have h1 : (i : Int) < (ys.length : Int) := by omega
   have hiy : i < ys.length := by omega
   have w0 : wrap64 (a + 1) = a + 1 := wrap_in (by omega) (by omega)
   have w1 : wrap64 (a + 2) = a + 2 := wrap_in (by omega) (by omega)
   have hr := ih (ys.set i (mkWrite a), a + 2) ⟨hI.step (by simpa [markL_length] using hi) (by rw [markL_get, ha]; rfl), by dsimp only; omega⟩
   dsimp only at hr
   simp only [laws_markWriteS.l0, Option.bind_some, h1, Int.natCast_nonneg, if_true, Int.toNat_natCast, wrap_up hi (by omega), w0, w1, show a + 1 + 1 = a + 2 from by omega]
   simpa [mkWrite, rd_T50, hiy] using hr
  ·rintro ⟨ys, a⟩ ⟨hI, ha⟩
   apply Ev.succ
   dsimp only at ha hI ⊢
   have hly : ys.length = l.length := by have := hI.1; simpa [markL_length] using this
   have h1 : ¬ ((l.length : Int) < (ys.length : Int)) := by omega
   simp only [laws_markWriteS.l0, h1, if_false]
   have hd : ys = markL mkWrite 2 l.length s0 := Filled.done (by rw [markL_length]; exact hI)
   exact Ev.some (by rw [ha, hd])
 exact h
theorem ev_heldWriteS (s0 : Int) (hs0 : 0 ≤ s0 ∧ s0 ≤ 1000000000) (n : Nat) (hn : n ≤ 4194304) : Ev (fun k => laws_heldWriteS.f k (markL mkWrite 2 n s0) s0) (s0 + 2 * (n : Int)) := by
 have h : Ev (fun k => laws_heldWriteS.l0 k (markL mkWrite 2 n s0) s0 ((0 : Nat) : Int)) (s0 + 2 * (n : Int)) := by
  refine ev_up (σ := Int) (fun a i k => laws_heldWriteS.l0 k (markL mkWrite 2 n s0) a (i : Int)) n (fun a i => a = s0 + 2 * (i : Int)) (fun _ _ => s0 + 2 * (n : Int)) ?_ ?_ s0 0 (Nat.zero_le _) (by simp)
  ·intro a i hi ha ih
   apply Ev.succ
   have h1 : (i : Int) < ((markL mkWrite 2 n s0).length : Int) := by rw [markL_length]; omega
   have hiy : i < (markL mkWrite 2 n s0).length := by rw [markL_length]; omega
   have hg : (markL mkWrite 2 n s0)[i] = mkWrite a := by rw [markL_get, ha]; rfl
   have w0 : wrap64 (a + 1) = a + 1 := wrap_in (by omega) (by omega)
   have w1 : wrap64 (a + 2) = a + 2 := wrap_in (by omega) (by omega)
   have hr := ih (a + 2) (by omega)
   have hrd : rd_T50 (markL mkWrite 2 n s0) (i : Int) = mkWrite a := by rw [← hg]; simp [rd_T50, hiy]
   simp only [laws_heldWriteS.l0, h1, Int.natCast_nonneg, if_true, hrd, wrap_up hi (by omega), w0, w1, show a + 1 + 1 = a + 2 from by omega]
   simpa [mkWrite] using hr
  ·intro a ha
   apply Ev.succ
   have h1 : ¬ ((n : Int) < ((markL mkWrite 2 n s0).length : Int)) := by rw [markL_length]; omega
   simp only [laws_heldWriteS.l0, h1, if_false]
   exact Ev.some ha
 exact h


theorem l1In_eq (a b c : Int) : spec_l1In.f a b c = some (decide (b ≤ a) && decide (a ≤ c)) := by
 by_cases h : b ≤ a <;> simp [spec_l1In.f, h]
theorem in_eq (a b c : Int) : impl_in.f a b c = some (decide (b ≤ a) && decide (a ≤ c)) := by
 by_cases h : b ≤ a <;> simp [impl_in.f, h]
theorem compare_eq (a b : Int) : cmp_Compare_int.f a b = some (if a < b then -1 else if a > b then 1 else 0) := by
 by_cases h : a < b <;> by_cases h' : a > b <;> simp [cmp_Compare_int.f, cmp_isNaN_int.f, h, h']
theorem ev_or (x y : Int) : Ev (fun k => cmp_Or_int.f k [x, y]) (if x = 0 then y else x) := by
 show Ev (fun k => cmp_Or_int.l0 k 0 [x, y] (2 : Int) 0) _
 apply Ev.succ
 by_cases hx : x = 0
 ·simp only [cmp_Or_int.l0, hx, rd, wrap64, if_true]
  apply Ev.succ
  by_cases hy : y = 0
  ·subst hy
   simp [cmp_Or_int.l0, rd, wrap64]
   apply Ev.succ
   simp [cmp_Or_int.l0]; exact Ev.now _
  ·simp [cmp_Or_int.l0, rd, wrap64, hy]; exact Ev.now _
 ·simp [cmp_Or_int.l0, rd, hx]; exact Ev.now _
theorem ev_cmp (a b c d : Int) : ∃ v, Ev (fun k => impl_compareMarks.f k a b c d) v ∧ spec_l5Before.f a b c d = some (decide (v < 0)) := by
 refine ⟨if (if a < c then -1 else if a > c then 1 else 0) = (0 : Int) then (if b < d then -1 else if b > d then 1 else 0) else (if a < c then -1 else if a > c then 1 else 0), ?_, ?_⟩
 ·unfold impl_compareMarks.f
  simp only [compare_eq, Option.bind_some]
  exact Ev.bind (ev_or _ _) (Ev.now _)
 ·unfold spec_l5Before.f
  by_cases h1 : a < c
  ·simp [h1]
  ·by_cases h2 : a > c
   ·have h3 : ¬ a = c := by omega
    simp [h1, h2, h3]
   ·have h3 : a = c := by omega
    by_cases h4 : b < d
    ·simp [h3, h4]
    ·by_cases h5 : b > d <;> simp [h3, h4, h5]
theorem both_reads (a0 a1 a2 a3 a4 a5 a6 : Int) (rs : List S48) (ws : List S50) (hl : rs.length ≤ 1048576) (r : Bool) (hr : Ev (fun k => spec_IsValidTransaction.l1 k 0 a0 a1 a2 a3 a4 a5 a6 rs ws) r) :
  ∃ x y, Ev (fun k => impl_areReads.f k rs) x ∧ Ev (fun k => spec_IsValidTransaction.l0 k ((0 : Nat) : Int) a0 a1 a2 a3 a4 a5 a6 rs ws) y ∧ ∃ rb : Bool, x = (rb && decide ((rs.length : Int) ≤ 60)) ∧ y = (rb && r) := by
 refine ev_two (σ := Unit) (τ := Unit) (fun _ i k => impl_areReads.l0 k rs rs (rs.length : Int) (i : Int)) (fun _ i k => spec_IsValidTransaction.l0 k (i : Int) a0 a1 a2 a3 a4 a5 a6 rs ws) rs.length (fun _ _ _ => True) (fun x y => ∃ rb : Bool, x = (rb && decide ((rs.length : Int) ≤ 60)) ∧ y = (rb && r)) ?_ ?_ () () 0 (Nat.zero_le _) trivial
 ·intro _ _ i hi _ ih
  have h1 : (i : Int) < (rs.length : Int) := by omega
  have e0 := wrap_up hi (by omega)
  obtain ⟨x, y, hx, hy, rb, rfl, rfl⟩ := ih () () trivial
  have iT : Ev (fun k => impl_areReads.j1 k rs (i : Int) rs (rs.length : Int) true) false := Ev.succ (by simp only [impl_areReads.j1, if_true]; exact Ev.now _)
  have sT : Ev (fun k => spec_IsValidTransaction.j1 k (i : Int) true a0 a1 a2 a3 a4 a5 a6 rs ws) false := Ev.succ (by simp only [spec_IsValidTransaction.j1, if_true]; exact Ev.now _)
  have iF : Ev (fun k => impl_areReads.j1 k rs (i : Int) rs (rs.length : Int) false) (rb && decide ((rs.length : Int) ≤ 60)) := Ev.succ (by simp only [impl_areReads.j1, Bool.false_eq_true, if_false, e0]; exact hx)
  have sF : Ev (fun k => spec_IsValidTransaction.j1 k (i : Int) false a0 a1 a2 a3 a4 a5 a6 rs ws) (rb && r) := Ev.succ (by simp only [spec_IsValidTransaction.j1, Bool.false_eq_true, if_false, e0]; exact hy)
  by_cases ck : (decide (0 ≤ (rd_T48 rs (i : Int)).f0) && decide ((rd_T48 rs (i : Int)).f0 ≤ 5)) = true
  rotate_left 1
  ·refine ⟨false, false, Ev.succ ?_, Ev.succ ?_, false, by simp, by simp⟩
   ·simp only [impl_areReads.l0, impl_isKey.f, in_eq, h1, ck, Int.natCast_nonneg, if_true, if_false, Option.bind_some]; exact iT
   ·simp only [spec_IsValidTransaction.l0, l1In_eq, h1, ck, Int.natCast_nonneg, if_true, if_false, Option.bind_some]; exact sT
  by_cases cc : (decide (0 ≤ (rd_T48 rs (i : Int)).f1) && decide ((rd_T48 rs (i : Int)).f1 ≤ 999)) = true
  rotate_left 1
  ·refine ⟨false, false, Ev.succ ?_, Ev.succ ?_, false, by simp, by simp⟩
   ·simp only [impl_areReads.l0, impl_isKey.f, in_eq, h1, ck, cc, Int.natCast_nonneg, if_true, if_false, Option.bind_some]; exact iT
   ·simp only [spec_IsValidTransaction.l0, l1In_eq, h1, ck, cc, Int.natCast_nonneg, if_true, if_false, Option.bind_some]; exact sT
  by_cases h0 : 0 < i
  ·have e1 : wrap64 ((i : Int) - 1) = ((i - 1 : Nat) : Int) := wrap_down h0 (by omega)
   have h2 : ((i - 1 : Nat) : Int) < (rs.length : Int) := by omega
   have h3 : (i : Int) > 0 := by omega
   obtain ⟨v, ev, hb⟩ := ev_cmp (rd_T48 rs ((i - 1 : Nat) : Int)).f0 (rd_T48 rs ((i - 1 : Nat) : Int)).f1 (rd_T48 rs (i : Int)).f0 (rd_T48 rs (i : Int)).f1
   by_cases hv : v < 0
   ·have hv' : ¬ v ≥ 0 := by omega
    refine ⟨(rb && decide ((rs.length : Int) ≤ 60)), (rb && r), Ev.succ ?_, Ev.succ ?_, rb, rfl, rfl⟩
    ·simp only [impl_areReads.l0, impl_isKey.f, in_eq, h1, h2, h3, e1, ck, cc, Int.natCast_nonneg, if_true, Option.bind_some]
     refine Ev.bind ev ?_
     simp only [hv', decide_false]; exact iF
    ·simp only [spec_IsValidTransaction.l0, l1In_eq, hb, hv, h1, h2, h3, e1, ck, cc, Int.natCast_nonneg, if_true, Option.bind_some, decide_true, Bool.not_true]; exact sF
   ·have hv' : v ≥ 0 := by omega
    refine ⟨false, false, Ev.succ ?_, Ev.succ ?_, false, by simp, by simp⟩
    ·simp only [impl_areReads.l0, impl_isKey.f, in_eq, h1, h2, h3, e1, ck, cc, Int.natCast_nonneg, if_true, Option.bind_some]
     refine Ev.bind ev ?_
     simp only [hv', decide_true]; exact iT
    ·simp only [spec_IsValidTransaction.l0, l1In_eq, hb, hv, h1, h2, h3, e1, ck, cc, Int.natCast_nonneg, if_true, Option.bind_some, decide_false, Bool.not_false]; exact sT
  ·have h3 : ¬ (i : Int) > 0 := by omega
   refine ⟨(rb && decide ((rs.length : Int) ≤ 60)), (rb && r), Ev.succ ?_, Ev.succ ?_, rb, rfl, rfl⟩
   ·simp only [impl_areReads.l0, impl_isKey.f, in_eq, h1, h3, ck, cc, Int.natCast_nonneg, if_true, if_false, Option.bind_some]; exact iF
   ·simp only [spec_IsValidTransaction.l0, l1In_eq, h1, h3, ck, cc, Int.natCast_nonneg, if_true, if_false, Option.bind_some]; exact sF
 ·intro _ _ _
  refine ⟨decide ((rs.length : Int) ≤ 60), r, Ev.succ ?_, Ev.succ ?_, true, (Bool.true_and _).symm, (Bool.true_and _).symm⟩
  ·simp only [impl_areReads.l0, Int.lt_irrefl, if_false]; exact Ev.now _
  ·simp only [spec_IsValidTransaction.l0, Int.lt_irrefl, if_false]; exact hr
def tailOf (a0 a1 a2 a3 a4 a5 a6 : Int) (n : Int) : Bool :=
 ((decide (1 ≤ a0) && decide (a0 ≤ 9)) && ((decide (1 ≤ a1) && decide (a1 ≤ 4)) && (decide (0 ≤ a3) && decide (a3 ≤ 999)))) &&
 ((decide (1 ≤ a2) && decide (a2 ≤ 3)) && ((decide (0 ≤ a4) && decide (a4 ≤ 999)) && ((decide (1 ≤ a5) && decide (a5 ≤ 1000)) && (((a2 == 2) == decide (a6 > 0)) && ((decide (0 ≤ a6) && decide (a6 ≤ 999)) && decide (n ≤ 60))))))
theorem both_writes (a0 a1 a2 a3 a4 a5 a6 : Int) (rs : List S48) (ws : List S50) (hl : ws.length ≤ 1048576) :
  ∃ x y, Ev (fun k => impl_areWrites.f k ws) x ∧ Ev (fun k => spec_IsValidTransaction.l1 k ((0 : Nat) : Int) a0 a1 a2 a3 a4 a5 a6 rs ws) y ∧ y = (x && tailOf a0 a1 a2 a3 a4 a5 a6 (rs.length : Int)) := by
 refine ev_two (σ := Unit) (τ := Unit) (fun _ i k => impl_areWrites.l0 k ws ws (ws.length : Int) (i : Int)) (fun _ i k => spec_IsValidTransaction.l1 k (i : Int) a0 a1 a2 a3 a4 a5 a6 rs ws) ws.length (fun _ _ _ => True) (fun x y => y = (x && tailOf a0 a1 a2 a3 a4 a5 a6 (rs.length : Int))) ?_ ?_ () () 0 (Nat.zero_le _) trivial
 ·intro _ _ i hi _ ih
  have h1 : (i : Int) < (ws.length : Int) := by omega
  have e0 := wrap_up hi (by omega)
  obtain ⟨x, y, hx, hy, rfl⟩ := ih () () trivial
  have iT : Ev (fun k => impl_areWrites.j1 k ws (i : Int) ws (ws.length : Int) true) false := Ev.succ (by simp only [impl_areWrites.j1, if_true]; exact Ev.now _)
  have sT : Ev (fun k => spec_IsValidTransaction.j3 k (i : Int) true a0 a1 a2 a3 a4 a5 a6 rs ws) false := Ev.succ (by simp only [spec_IsValidTransaction.j3, if_true]; exact Ev.now _)
  have iF : Ev (fun k => impl_areWrites.j1 k ws (i : Int) ws (ws.length : Int) false) x := Ev.succ (by simp only [impl_areWrites.j1, Bool.false_eq_true, if_false, e0]; exact hx)
  have sF : Ev (fun k => spec_IsValidTransaction.j3 k (i : Int) false a0 a1 a2 a3 a4 a5 a6 rs ws) (x && tailOf a0 a1 a2 a3 a4 a5 a6 (rs.length : Int)) := Ev.succ (by simp only [spec_IsValidTransaction.j3, Bool.false_eq_true, if_false, e0]; exact hy)
  by_cases ck : (decide (0 ≤ (rd_T50 ws (i : Int)).f0) && decide ((rd_T50 ws (i : Int)).f0 ≤ 5)) = true
  rotate_left 1
  ·refine ⟨false, false, Ev.succ ?_, Ev.succ ?_, by simp⟩
   ·simp only [impl_areWrites.l0, impl_isKey.f, in_eq, h1, ck, Int.natCast_nonneg, if_true, if_false, Option.bind_some]; exact iT
   ·simp only [spec_IsValidTransaction.l1, l1In_eq, h1, ck, Int.natCast_nonneg, if_true, if_false, Option.bind_some]; exact sT
  by_cases cc : (decide (-1 ≤ (rd_T50 ws (i : Int)).f1) && decide ((rd_T50 ws (i : Int)).f1 ≤ 99)) = true
  rotate_left 1
  ·refine ⟨false, false, Ev.succ ?_, Ev.succ ?_, by simp⟩
   ·simp only [impl_areWrites.l0, impl_isKey.f, impl_isValue.f, in_eq, h1, ck, cc, Int.natCast_nonneg, if_true, if_false, Option.bind_some]; exact iT
   ·simp only [spec_IsValidTransaction.l1, l1In_eq, h1, ck, cc, Int.natCast_nonneg, if_true, if_false, Option.bind_some]; exact sT
  by_cases h0 : 0 < i
  ·have e1 : wrap64 ((i : Int) - 1) = ((i - 1 : Nat) : Int) := wrap_down h0 (by omega)
   have h2 : ((i - 1 : Nat) : Int) < (ws.length : Int) := by omega
   have h3 : (i : Int) > 0 := by omega
   by_cases hv : (rd_T50 ws ((i - 1 : Nat) : Int)).f0 ≥ (rd_T50 ws (i : Int)).f0
   ·refine ⟨false, false, Ev.succ ?_, Ev.succ ?_, by simp⟩
    ·simp only [impl_areWrites.l0, impl_isKey.f, impl_isValue.f, in_eq, h1, h2, h3, e1, hv, ck, cc, Int.natCast_nonneg, if_true, Option.bind_some, decide_true]; exact iT
    ·simp only [spec_IsValidTransaction.l1, l1In_eq, h1, h2, h3, e1, hv, ck, cc, Int.natCast_nonneg, if_true, Option.bind_some, decide_true]; exact sT
   ·refine ⟨x, (x && tailOf a0 a1 a2 a3 a4 a5 a6 (rs.length : Int)), Ev.succ ?_, Ev.succ ?_, rfl⟩
    ·simp only [impl_areWrites.l0, impl_isKey.f, impl_isValue.f, in_eq, h1, h2, h3, e1, hv, ck, cc, Int.natCast_nonneg, if_true, Option.bind_some, decide_false]; exact iF
    ·simp only [spec_IsValidTransaction.l1, l1In_eq, h1, h2, h3, e1, hv, ck, cc, Int.natCast_nonneg, if_true, Option.bind_some, decide_false]; exact sF
  ·have h3 : ¬ (i : Int) > 0 := by omega
   refine ⟨x, (x && tailOf a0 a1 a2 a3 a4 a5 a6 (rs.length : Int)), Ev.succ ?_, Ev.succ ?_, rfl⟩
   ·simp only [impl_areWrites.l0, impl_isKey.f, impl_isValue.f, in_eq, h1, h3, ck, cc, Int.natCast_nonneg, if_true, if_false, Option.bind_some]; exact iF
   ·simp only [spec_IsValidTransaction.l1, l1In_eq, h1, h3, ck, cc, Int.natCast_nonneg, if_true, if_false, Option.bind_some]; exact sF
 ·intro _ _ _
  refine ⟨true, tailOf a0 a1 a2 a3 a4 a5 a6 (rs.length : Int), Ev.succ ?_, Ev.succ ?_, (Bool.true_and _).symm⟩
  ·simp only [impl_areWrites.l0, Int.lt_irrefl, if_false]; exact Ev.now _
  ·have jT : Ev (fun k => spec_IsValidTransaction.j4 k true a0 a1 a2 a3 a4 a5 a6 rs ws) false := Ev.succ (by simp only [spec_IsValidTransaction.j4, if_true]; exact Ev.now _)
   have jF : Ev (fun k => spec_IsValidTransaction.j4 k false a0 a1 a2 a3 a4 a5 a6 rs ws) ((decide (1 ≤ a2) && decide (a2 ≤ 3)) && ((decide (0 ≤ a4) && decide (a4 ≤ 999)) && ((decide (1 ≤ a5) && decide (a5 ≤ 1000)) && (((a2 == 2) == decide (a6 > 0)) && ((decide (0 ≤ a6) && decide (a6 ≤ 999)) && decide ((rs.length : Int) ≤ 60)))))) := by
    apply Ev.succ
    simp only [spec_IsValidTransaction.j4, Bool.false_eq_true, if_false, l1In_eq, Option.bind_some]
    generalize (decide (1 ≤ a2) && decide (a2 ≤ 3)) = b2
    generalize (decide (0 ≤ a4) && decide (a4 ≤ 999)) = b4
    generalize (decide (1 ≤ a5) && decide (a5 ≤ 1000)) = b5
    generalize ((a2 == 2) == decide (a6 > 0)) = b6
    generalize (decide (0 ≤ a6) && decide (a6 ≤ 999)) = b7
    cases b2 <;> cases b4 <;> cases b5 <;> cases b6 <;> cases b7 <;> simp only [Bool.false_eq_true, if_false, if_true, Bool.false_and, Bool.true_and] <;> exact Ev.now _
   simp only [spec_IsValidTransaction.l1, Int.lt_irrefl, if_false, l1In_eq, Option.bind_some]
   unfold tailOf
   revert jF
   generalize ((decide (1 ≤ a2) && decide (a2 ≤ 3)) && ((decide (0 ≤ a4) && decide (a4 ≤ 999)) && ((decide (1 ≤ a5) && decide (a5 ≤ 1000)) && (((a2 == 2) == decide (a6 > 0)) && ((decide (0 ≤ a6) && decide (a6 ≤ 999)) && decide ((rs.length : Int) ≤ 60)))))) = bt
   intro jF
   generalize (decide (1 ≤ a0) && decide (a0 ≤ 9)) = b0
   generalize (decide (1 ≤ a1) && decide (a1 ≤ 4)) = b1
   generalize (decide (0 ≤ a3) && decide (a3 ≤ 999)) = b3
   cases b0 <;> cases b1 <;> cases b3 <;> simp only [Bool.false_eq_true, if_false, if_true, Bool.false_and, Bool.true_and, Bool.not_true, Bool.not_false, Bool.and_false, Bool.and_true] <;> first | exact jT | exact jF
theorem both_WriterOf (l : List S33) (a b : Int) (hl : l.length ≤ 1048576) (hn : ∀ e ∈ l, fitd_Entry e) : ∃ r, Ev (fun k => spec_WriterOf.f k l a b) r ∧ Ev (fun k => impl_WriterOf.f k l a b) r ∧ True := by
 refine ev_both (σ := Unit) (τ := Unit) (fun _ i k => spec_WriterOf.l0 k l (i : Int) a b) (fun _ i k => impl_WriterOf.l0 k l (l.length : Int) (i : Int) a b) l.length (fun _ _ _ => True) (fun _ => True) ?_ ?_ () () 0 (Nat.zero_le _) trivial
 ·intro _ _ i hi _ ih
  have h1 : (i : Int) < (l.length : Int) := by omega
  have e0 := wrap_up hi (by omega)
  obtain ⟨r, hs, ht, _⟩ := ih () () trivial
  have hrd : rd_T33 l (i : Int) = l[i] := by simp [rd_T33, hi]
  have hf := (hn _ (List.getElem_mem hi)).2
  rw [← hrd] at hf
  by_cases c : (rd_T33 l i).f1 = b
  ·have h : ∃ r1 q, Ev (fun k => spec_WriterOf.l1 k l (i : Int) ((0 : Nat) : Int) a b) r1 ∧ Ev (fun k => impl_Write_109.l0 k (rd_T33 l i).f3 ((rd_T33 l i).f3.length : Int) ((0 : Nat) : Int) a) q ∧ ((q < 0 ∧ r1 = r) ∨ (0 ≤ q ∧ r1 = (rd_T33 l i).f0)) := by
    refine ev_two (σ := Unit) (τ := Unit) (fun _ j k => spec_WriterOf.l1 k l (i : Int) (j : Int) a b) (fun _ j k => impl_Write_109.l0 k (rd_T33 l i).f3 ((rd_T33 l i).f3.length : Int) (j : Int) a) (rd_T33 l i).f3.length (fun _ _ _ => True) (fun r1 q => ((q < 0 ∧ r1 = r) ∨ (0 ≤ q ∧ r1 = (rd_T33 l i).f0))) ?_ ?_ () () 0 (Nat.zero_le _) trivial
    ·intro _ _ j hj _ ih2
     have h2 : (j : Int) < ((rd_T33 l i).f3.length : Int) := by omega
     have e1 := wrap_up hj (by omega)
     by_cases d : (rd_T50 (rd_T33 l i).f3 j).f0 = a
     ·refine ⟨(rd_T33 l i).f0, (j : Int), Ev.succ ?_, Ev.succ ?_, .inr ⟨by omega, rfl⟩⟩ <;> (simp only [spec_WriterOf.l1, impl_Write_109.l0, impl_Entry_writes_1.f, h1, h2, c, d, beq_self_eq_true, Int.natCast_nonneg, if_true, Option.bind_some]; exact Ev.now _)
     ·obtain ⟨r1, q, hs1, ht1, hR⟩ := ih2 () () trivial
      have db : ((rd_T50 (rd_T33 l i).f3 j).f0 == a) = false := by simpa using d
      refine ⟨r1, q, Ev.succ ?_, Ev.succ ?_, hR⟩ <;> (simp only [spec_WriterOf.l1, impl_Write_109.l0, impl_Entry_writes_1.f, h1, h2, c, d, db, e1, Int.natCast_nonneg, if_true, if_false, Option.bind_some, Bool.false_eq_true]; assumption)
    ·intro _ _ _
     refine ⟨r, -1, Ev.succ ?_, Ev.succ ?_, .inl ⟨by omega, rfl⟩⟩
     ·simp only [spec_WriterOf.l1, h1, e0, Int.natCast_nonneg, Int.lt_irrefl, if_true, if_false]; exact hs
     ·simp only [impl_Write_109.l0, Int.lt_irrefl, if_false]; exact Ev.now _
   obtain ⟨r1, q, g1, g2, hR⟩ := h
   refine ⟨r1, Ev.succ ?_, Ev.succ ?_, trivial⟩
   ·simp only [spec_WriterOf.l0, h1, if_true]; exact g1
   ·simp only [impl_WriterOf.l0, h1, c, Int.natCast_nonneg, if_true, impl_Entry_writes.f, impl_Write_96.f, impl_Write_109.f]
    refine Ev.bind (Ev.bind (Ev.bind g2 (Ev.now _)) (Ev.now _)) ?_
    rcases hR with ⟨hq, rfl⟩ | ⟨hq, rfl⟩
    ·have : ¬ q ≥ 0 := by omega
     simp only [this, decide_false, Bool.false_eq_true, if_false, e0]; exact ht
    ·have : q ≥ 0 := by omega
     simp only [this, decide_true, if_true]; exact Ev.now _
  ·have h : Ev (fun k => spec_WriterOf.l1 k l (i : Int) ((0 : Nat) : Int) a b) r := by
    refine ev_up (σ := Unit) (fun _ j k => spec_WriterOf.l1 k l (i : Int) (j : Int) a b) (rd_T33 l i).f3.length (fun _ _ => True) (fun _ _ => r) ?_ ?_ () 0 (Nat.zero_le _) trivial
    ·intro _ j hj _ ih2
     have h2 : (j : Int) < ((rd_T33 l i).f3.length : Int) := by omega
     have e1 := wrap_up hj (by omega)
     apply Ev.succ
     simp only [spec_WriterOf.l1, h1, h2, c, e1, Int.natCast_nonneg, if_true, if_false]
     exact ih2 () trivial
    ·intro _ _
     apply Ev.succ
     simp only [spec_WriterOf.l1, h1, e0, Int.natCast_nonneg, Int.lt_irrefl, if_true, if_false]; exact hs
   refine ⟨r, Ev.succ ?_, Ev.succ ?_, trivial⟩
   ·simp only [spec_WriterOf.l0, h1, if_true]; exact h
   ·simp only [impl_WriterOf.l0, h1, c, e0, Int.natCast_nonneg, if_true, if_false]; exact ht
 ·intro _ _ _
  refine ⟨0, Ev.succ ?_, Ev.succ ?_, trivial⟩ <;> (simp only [spec_WriterOf.l0, impl_WriterOf.l0, Int.lt_irrefl, if_false]; exact Ev.now _)
theorem both_isEntry (a0 a1 : Int) (rs : List S48) (ws : List S50) (hl : rs.length ≤ 1048576) (hw : ws.length ≤ 1048576) :
  ∃ b : Bool, Ev (fun k => spec_IsValidTransaction.f k a0 1 2 0 0 1000 a1 rs ws) b ∧ Ev (fun k => impl_isEntry.f k a0 a1 rs ws) b := by
 obtain ⟨wb, y1, hwi, hws, rfl⟩ := both_writes a0 1 2 0 0 1000 a1 rs ws hw
 obtain ⟨x, y, hri, hrs, rb, rfl, rfl⟩ := both_reads a0 1 2 0 0 1000 a1 rs ws hl _ hws
 refine ⟨_, hrs, ?_⟩
 have heq : (rb && (wb && tailOf a0 1 2 0 0 1000 a1 (rs.length : Int))) = ((decide (1 ≤ a0) && decide (a0 ≤ 9)) && ((decide (1 ≤ a1) && decide (a1 ≤ 999)) && ((rb && decide ((rs.length : Int) ≤ 60)) && wb))) := by
  have hst : ((((2 : Int) == 2) == decide (a1 > 0)) && (decide (0 ≤ a1) && decide (a1 ≤ 999))) = (decide (1 ≤ a1) && decide (a1 ≤ 999)) := by
   by_cases d1 : 1 ≤ a1
   ·have d0 : a1 > 0 := by omega
    have d3 : 0 ≤ a1 := by omega
    simp [d1, d0, d3]
   ·have d0 : ¬ a1 > 0 := by omega
    simp [d1, d0]
  have hx : tailOf a0 1 2 0 0 1000 a1 (rs.length : Int) = ((decide (1 ≤ a0) && decide (a0 ≤ 9)) && ((decide (1 ≤ a1) && decide (a1 ≤ 999)) && decide ((rs.length : Int) ≤ 60))) := by
   rw [← hst]
   unfold tailOf
   simp [Bool.and_assoc]
  rw [hx]
  cases rb <;> cases wb <;> simp
 rw [heq]
 unfold impl_isEntry.f
 simp only [impl_isID.f, impl_IsStamp.f, in_eq, Option.bind_some]
 cases (decide (1 ≤ a0) && decide (a0 ≤ 9))
 ·simp only [Bool.false_eq_true, if_false, Bool.false_and]; exact Ev.now _
 simp only [if_true, Bool.true_and]
 cases (decide (1 ≤ a1) && decide (a1 ≤ 999))
 ·simp only [Bool.false_eq_true, if_false, Bool.false_and]; exact Ev.now _
 simp only [if_true, Bool.true_and]
 refine Ev.bind hri ?_
 cases (rb && decide ((rs.length : Int) ≤ 60))
 ·simp only [Bool.false_eq_true, if_false, Bool.false_and]; exact Ev.now _
 ·simp only [if_true, Bool.true_and]; exact Ev.bind hwi (Ev.now _)
theorem find_both (l : List S33) (hl : l.length ≤ 1048576) (i : Nat) (hi : i < l.length) :
  ∃ r q, Ev (fun k => spec_FindEntry.f k (l.take i) (rd_T33 l (i : Int)).f0) r ∧ Ev (fun k => impl_FindEntry.f k l (rd_T33 l (i : Int)).f0) q ∧ decide (r ≥ 0) = (q != (i : Int)) := by
 have hlen : (l.take i).length = i := by rw [List.length_take]; omega
 have h : ∃ r q, Ev (fun k => spec_FindEntry.l0 k (l.take i) (rd_T33 l (i : Int)).f0 ((0 : Nat) : Int)) r ∧ Ev (fun k => impl_Entry.l0 k l (l.length : Int) ((0 : Nat) : Int) (rd_T33 l (i : Int)).f0) q ∧ decide (r ≥ 0) = (q != (i : Int)) := by
  refine ev_two (σ := Unit) (τ := Unit) (fun _ j k => spec_FindEntry.l0 k (l.take i) (rd_T33 l (i : Int)).f0 (j : Int)) (fun _ j k => impl_Entry.l0 k l (l.length : Int) (j : Int) (rd_T33 l (i : Int)).f0) i (fun _ _ _ => True) (fun r q => decide (r ≥ 0) = (q != (i : Int))) ?_ ?_ () () 0 (Nat.zero_le _) trivial
  ·intro _ _ j hj _ ih
   have h1 : (j : Int) < (l.length : Int) := by omega
   have h2 : (j : Int) < ((l.take i).length : Int) := by rw [hlen]; omega
   have e0 := wrap_up (show j < l.length by omega) (by omega)
   have hrd : rd_T33 (l.take i) (j : Int) = rd_T33 l (j : Int) := by
    have g1 : j < l.length := by omega
    have g2 : j < (l.take i).length := by omega
    simp [rd_T33, g1, hj]
   by_cases c : (rd_T33 l (j : Int)).f0 = (rd_T33 l (i : Int)).f0
   ·refine ⟨(j : Int), (j : Int), Ev.succ ?_, Ev.succ ?_, ?_⟩
    ·simp only [spec_FindEntry.l0, h2, hrd, c, Int.natCast_nonneg, if_true]; exact Ev.now _
    ·simp only [impl_Entry.l0, impl_FindEntry_1.f, h1, c, beq_self_eq_true, Int.natCast_nonneg, if_true, Option.bind_some]; exact Ev.now _
    ·have d1 : (j : Int) ≥ 0 := by omega
     have d2 : (j : Int) ≠ (i : Int) := by omega
     simp [d1, d2]
   ·obtain ⟨r, q, hs, ht, hR⟩ := ih () () trivial
    have cb : ((rd_T33 l (j : Int)).f0 == (rd_T33 l (i : Int)).f0) = false := by simpa using c
    refine ⟨r, q, Ev.succ ?_, Ev.succ ?_, hR⟩
    ·simp only [spec_FindEntry.l0, h2, hrd, c, e0, Int.natCast_nonneg, if_true, if_false]; exact hs
    ·simp only [impl_Entry.l0, impl_FindEntry_1.f, h1, cb, e0, Int.natCast_nonneg, if_true, if_false, Option.bind_some, Bool.false_eq_true]; exact ht
  ·intro _ _ _
   have h1 : (i : Int) < (l.length : Int) := by omega
   have h2 : ¬ (i : Int) < ((l.take i).length : Int) := by rw [hlen]; omega
   refine ⟨-1, (i : Int), Ev.succ ?_, Ev.succ ?_, by simp⟩
   ·simp only [spec_FindEntry.l0, h2, if_false]; exact Ev.now _
   ·simp only [impl_Entry.l0, impl_FindEntry_1.f, h1, beq_self_eq_true, Int.natCast_nonneg, if_true, Option.bind_some]; exact Ev.now _
 obtain ⟨r, q, h1, h2, hR⟩ := h
 refine ⟨r, q, h1, ?_, hR⟩
 unfold impl_FindEntry.f impl_Entry.f
 exact Ev.bind h2 (Ev.now _)
theorem hist2 (l : List S33) (hl : l.length ≤ 1048576) (hn : ∀ e ∈ l, fitd_Entry e) : ∃ x y, Ev (fun k => spec_IsHistory.l1 k l ((0 : Nat) : Int)) x ∧ Ev (fun k => impl_IsHistory.l1 k l l (l.length : Int) ((0 : Nat) : Int)) y ∧ x = (y && decide ((l.length : Int) ≤ 9)) := by
 refine ev_two (σ := Unit) (τ := Unit) (fun _ i k => spec_IsHistory.l1 k l (i : Int)) (fun _ i k => impl_IsHistory.l1 k l l (l.length : Int) (i : Int)) l.length (fun _ _ _ => True) (fun x y => x = (y && decide ((l.length : Int) ≤ 9))) ?_ ?_ () () 0 (Nat.zero_le _) trivial
 ·intro _ _ i hi _ ih
  have h1 : (i : Int) < (l.length : Int) := by omega
  have e0 := wrap_up hi (by omega)
  obtain ⟨x, y, hs, ht, hR⟩ := ih () () trivial
  have hrd : rd_T33 l (i : Int) = l[i] := by simp [rd_T33, hi]
  have hf := (hn _ (List.getElem_mem hi)).1
  rw [← hrd] at hf
  have inner : ∃ x y, Ev (fun k => spec_IsHistory.l2 k l (i : Int) ((0 : Nat) : Int)) x ∧ Ev (fun k => impl_IsHistory.l2 k l l (l.length : Int) (i : Int) (rd_T33 l (i : Int)).f2 ((rd_T33 l (i : Int)).f2.length : Int) ((0 : Nat) : Int) (rd_T33 l (i : Int)).f0 (rd_T33 l (i : Int)).f1 (rd_T33 l (i : Int)).f2 (rd_T33 l (i : Int)).f3) y ∧ x = (y && decide ((l.length : Int) ≤ 9)) := by
   refine ev_two (σ := Unit) (τ := Unit) (fun _ j k => spec_IsHistory.l2 k l (i : Int) (j : Int)) (fun _ j k => impl_IsHistory.l2 k l l (l.length : Int) (i : Int) (rd_T33 l (i : Int)).f2 ((rd_T33 l (i : Int)).f2.length : Int) (j : Int) (rd_T33 l (i : Int)).f0 (rd_T33 l (i : Int)).f1 (rd_T33 l (i : Int)).f2 (rd_T33 l (i : Int)).f3) (rd_T33 l (i : Int)).f2.length (fun _ _ _ => True) (fun x y => x = (y && decide ((l.length : Int) ≤ 9))) ?_ ?_ () () 0 (Nat.zero_le _) trivial
   ·intro _ _ j hj _ ih2
    have h2 : (j : Int) < ((rd_T33 l (i : Int)).f2.length : Int) := by omega
    have e1 := wrap_up hj (by omega)
    obtain ⟨x2, y2, hs2, ht2, hR2⟩ := ih2 () () trivial
    obtain ⟨w, ew, ew', _⟩ := both_WriterOf l (rd_T48 (rd_T33 l (i : Int)).f2 (j : Int)).f0 (rd_T48 (rd_T33 l (i : Int)).f2 (j : Int)).f1 hl hn
    have jS : ∀ t : Bool, Ev (fun k => spec_IsHistory.j5 k l (i : Int) (j : Int) t) (!t && x2) := by
     intro t
     apply Ev.succ
     cases t
     ·simp only [spec_IsHistory.j5, Bool.false_eq_true, if_false, e1, Bool.not_false, Bool.true_and]; exact hs2
     ·simp only [spec_IsHistory.j5, if_true, Bool.not_true, Bool.false_and]; exact Ev.now _
    have jI : ∀ t : Bool, Ev (fun k => impl_IsHistory.j5 k l l (l.length : Int) (i : Int) (rd_T33 l (i : Int)).f2 ((rd_T33 l (i : Int)).f2.length : Int) (j : Int) t (rd_T33 l (i : Int)).f0 (rd_T33 l (i : Int)).f1 (rd_T33 l (i : Int)).f2 (rd_T33 l (i : Int)).f3) (!t && y2) := by
     intro t
     apply Ev.succ
     cases t
     ·simp only [impl_IsHistory.j5, Bool.false_eq_true, if_false, e1, Bool.not_false, Bool.true_and]; exact ht2
     ·simp only [impl_IsHistory.j5, if_true, Bool.not_true, Bool.false_and]; exact Ev.now _
    have fin : ∀ t : Bool, (!t && x2) = ((!t && y2) && decide ((l.length : Int) ≤ 9)) := by intro t; rw [hR2, Bool.and_assoc]
    by_cases c : w = (rd_T33 l (i : Int)).f0
    ·refine ⟨_, _, Ev.succ ?_, Ev.succ ?_, fin true⟩
     ·simp only [spec_IsHistory.l2, Int.natCast_nonneg, h1, h2, if_true]
      refine Ev.bind ew ?_
      simp only [c, if_true]; exact jS true
     ·simp only [impl_IsHistory.l2, Int.natCast_nonneg, h2, if_true]
      refine Ev.bind ew' ?_
      simp only [c, if_true]; exact jI true
    by_cases d : (rd_T48 (rd_T33 l (i : Int)).f2 (j : Int)).f1 > 0
    ·refine ⟨_, _, Ev.succ ?_, Ev.succ ?_, fin (w == 0)⟩
     ·simp only [spec_IsHistory.l2, Int.natCast_nonneg, h1, h2, if_true]
      refine Ev.bind ew ?_
      simp only [c, d, if_true, if_false]; exact jS _
     ·simp only [impl_IsHistory.l2, Int.natCast_nonneg, h2, if_true]
      refine Ev.bind ew' ?_
      simp only [c, d, if_true, if_false]; exact jI _
    ·refine ⟨_, _, Ev.succ ?_, Ev.succ ?_, fin false⟩
     ·simp only [spec_IsHistory.l2, Int.natCast_nonneg, h1, h2, if_true]
      refine Ev.bind ew ?_
      simp only [c, d, if_false]; exact jS false
     ·simp only [impl_IsHistory.l2, Int.natCast_nonneg, h2, if_true]
      refine Ev.bind ew' ?_
      simp only [c, d, if_false]; exact jI false
   ·intro _ _ _
    refine ⟨x, y, Ev.succ ?_, Ev.succ ?_, hR⟩
    ·simp only [spec_IsHistory.l2, h1, e0, Int.natCast_nonneg, Int.lt_irrefl, if_true, if_false]; exact hs
    ·simp only [impl_IsHistory.l2, e0, Int.lt_irrefl, if_false]; exact ht
  obtain ⟨x, y, g1, g2, g3⟩ := inner
  refine ⟨x, y, Ev.succ ?_, Ev.succ ?_, g3⟩
  ·simp only [spec_IsHistory.l1, h1, if_true]; exact g1
  ·simp only [impl_IsHistory.l1, h1, Int.natCast_nonneg, if_true]; exact g2
 ·intro _ _ _
  refine ⟨decide ((l.length : Int) ≤ 9), true, Ev.succ ?_, Ev.succ ?_, by simp⟩
  ·simp only [spec_IsHistory.l1, Int.lt_irrefl, if_false]; exact Ev.now _
  ·simp only [impl_IsHistory.l1, Int.lt_irrefl, if_false]; exact Ev.now _
theorem hist1 (l : List S33) (hl : l.length ≤ 1048576) (hn : ∀ e ∈ l, fitd_Entry e) : ∃ x y, Ev (fun k => spec_IsHistory.l0 k l ((0 : Nat) : Int)) x ∧ Ev (fun k => impl_IsHistory.l0 k l l (l.length : Int) ((0 : Nat) : Int)) y ∧ x = (y && decide ((l.length : Int) ≤ 9)) := by
 obtain ⟨u, v, hu, hv, huv⟩ := hist2 l hl hn
 refine ev_two (σ := Unit) (τ := Unit) (fun _ i k => spec_IsHistory.l0 k l (i : Int)) (fun _ i k => impl_IsHistory.l0 k l l (l.length : Int) (i : Int)) l.length (fun _ _ _ => True) (fun x y => x = (y && decide ((l.length : Int) ≤ 9))) ?_ ?_ () () 0 (Nat.zero_le _) trivial
 ·intro _ _ i hi _ ih
  have h1 : (i : Int) < (l.length : Int) := by omega
  have hil : (i : Int) ≤ (l.length : Int) := by omega
  have e0 := wrap_up hi (by omega)
  obtain ⟨x, y, hs, ht, hR⟩ := ih () () trivial
  have hrd : rd_T33 l (i : Int) = l[i] := by simp [rd_T33, hi]
  have hf := hn _ (List.getElem_mem hi)
  rw [← hrd] at hf
  obtain ⟨bv, eb, eb'⟩ := both_isEntry (rd_T33 l (i : Int)).f0 (rd_T33 l (i : Int)).f1 (rd_T33 l (i : Int)).f2 (rd_T33 l (i : Int)).f3 hf.1 hf.2
  obtain ⟨r, q, er, eq, hF⟩ := find_both l hl i hi
  have j2S : ∀ t : Bool, Ev (fun k => spec_IsHistory.j2 k l (i : Int) t) (!t && x) := by
   intro t
   apply Ev.succ
   cases t
   ·simp only [spec_IsHistory.j2, Bool.false_eq_true, if_false, e0, Bool.not_false, Bool.true_and]; exact hs
   ·simp only [spec_IsHistory.j2, if_true, Bool.not_true, Bool.false_and]; exact Ev.now _
  have j2I : ∀ t : Bool, Ev (fun k => impl_IsHistory.j2 k l (i : Int) l (l.length : Int) t) (!t && y) := by
   intro t
   apply Ev.succ
   cases t
   ·simp only [impl_IsHistory.j2, Bool.false_eq_true, if_false, e0, Bool.not_false, Bool.true_and]; exact ht
   ·simp only [impl_IsHistory.j2, if_true, Bool.not_true, Bool.false_and]; exact Ev.now _
  have j1 : ∃ t2 : Bool, (∀ t : Bool, Ev (fun k => spec_IsHistory.j1 k l (i : Int) t) (!t && (!t2 && x))) ∧ (∀ t : Bool, Ev (fun k => impl_IsHistory.j1 k l (i : Int) l (l.length : Int) t (rd_T33 l (i : Int)).f0 (rd_T33 l (i : Int)).f1 (rd_T33 l (i : Int)).f2 (rd_T33 l (i : Int)).f3) (!t && (!t2 && y))) := by
   by_cases c5 : 0 < i
   ·have e1 : wrap64 ((i : Int) - 1) = ((i - 1 : Nat) : Int) := wrap_down c5 (by omega)
    have h2 : ((i - 1 : Nat) : Int) < (l.length : Int) := by omega
    have h3 : (i : Int) > 0 := by omega
    refine ⟨if (rd_T33 l ((i - 1 : Nat) : Int)).f1 > (rd_T33 l (i : Int)).f1 then true else if (rd_T33 l ((i - 1 : Nat) : Int)).f1 = (rd_T33 l (i : Int)).f1 then decide (((rd_T33 l (i : Int)).f3.length : Int) > 0) else false, ?_, ?_⟩
    ·intro t
     apply Ev.succ
     cases t
     ·by_cases d1 : (rd_T33 l ((i - 1 : Nat) : Int)).f1 > (rd_T33 l (i : Int)).f1
      ·simp only [spec_IsHistory.j1, Bool.false_eq_true, if_false, if_true, h3, e1, h2, h1, d1, Int.natCast_nonneg, Bool.not_false, Bool.true_and]; exact j2S true
      ·by_cases d2 : (rd_T33 l ((i - 1 : Nat) : Int)).f1 = (rd_T33 l (i : Int)).f1
       ·have d1' : ¬ (rd_T33 l (i : Int)).f1 > (rd_T33 l (i : Int)).f1 := by omega
        simp only [spec_IsHistory.j1, Bool.false_eq_true, if_false, if_true, h3, e1, h2, h1, d1', d2, Int.natCast_nonneg, Bool.not_false, Bool.true_and]; exact j2S _
       ·simp only [spec_IsHistory.j1, Bool.false_eq_true, if_false, if_true, h3, e1, h2, h1, d1, d2, Int.natCast_nonneg, Bool.not_false, Bool.true_and]; exact j2S false
     ·simp only [spec_IsHistory.j1, if_true, Bool.not_true, Bool.false_and]; exact Ev.now _
    ·intro t
     apply Ev.succ
     cases t
     ·by_cases d1 : (rd_T33 l ((i - 1 : Nat) : Int)).f1 > (rd_T33 l (i : Int)).f1
      ·have d1' : (rd_T33 l (i : Int)).f1 < (rd_T33 l ((i - 1 : Nat) : Int)).f1 := d1
       simp only [impl_IsHistory.j1, Bool.false_eq_true, if_false, if_true, h3, e1, h2, d1, d1', Int.natCast_nonneg, Bool.not_false, Bool.true_and]; exact j2I true
      ·by_cases d2 : (rd_T33 l ((i - 1 : Nat) : Int)).f1 = (rd_T33 l (i : Int)).f1
       ·have d1' : ¬ (rd_T33 l (i : Int)).f1 < (rd_T33 l (i : Int)).f1 := by omega
        have d1'' : ¬ (rd_T33 l (i : Int)).f1 > (rd_T33 l (i : Int)).f1 := by omega
        simp only [impl_IsHistory.j1, Bool.false_eq_true, if_false, if_true, h3, e1, h2, d1', d1'', d2, Int.natCast_nonneg, Bool.not_false, Bool.true_and]; exact j2I _
       ·have d1' : ¬ (rd_T33 l (i : Int)).f1 < (rd_T33 l ((i - 1 : Nat) : Int)).f1 := by omega
        have d2' : ¬ (rd_T33 l (i : Int)).f1 = (rd_T33 l ((i - 1 : Nat) : Int)).f1 := fun e => d2 e.symm
        simp only [impl_IsHistory.j1, Bool.false_eq_true, if_false, if_true, h3, e1, h2, d1, d1', d2, d2', Int.natCast_nonneg, Bool.not_false, Bool.true_and]; exact j2I false
     ·simp only [impl_IsHistory.j1, if_true, Bool.not_true, Bool.false_and]; exact Ev.now _
   ·have h3 : ¬ ((i : Int) > 0) := by omega
    refine ⟨false, ?_, ?_⟩
    ·intro t
     apply Ev.succ
     cases t
     ·rw [show (!false && (!false && x)) = x from by simp]
      have := j2S false
      simp only [spec_IsHistory.j1, Bool.false_eq_true, if_false, h3]
      simpa using this
     ·simp only [spec_IsHistory.j1, if_true, Bool.not_true, Bool.false_and]; exact Ev.now _
    ·intro t
     apply Ev.succ
     cases t
     ·rw [show (!false && (!false && y)) = y from by simp]
      have := j2I false
      simp only [impl_IsHistory.j1, Bool.false_eq_true, if_false, h3]
      simpa using this
     ·simp only [impl_IsHistory.j1, if_true, Bool.not_true, Bool.false_and]; exact Ev.now _
  obtain ⟨t2, jS, jI⟩ := j1
  have fin : ∀ t : Bool, (!t && (!t2 && x)) = ((!t && (!t2 && y)) && decide ((l.length : Int) ≤ 9)) := by intro t; rw [hR, Bool.and_assoc, Bool.and_assoc]
  by_cases hb : bv = true
  ·refine ⟨_, _, Ev.succ ?_, Ev.succ ?_, fin (q != (i : Int))⟩
   ·simp only [spec_IsHistory.l0, spec_l18Tx.f, h1, Int.natCast_nonneg, if_true, Option.bind_some]
    refine Ev.bind eb ?_
    simp only [hb, hil, if_true, Int.toNat_natCast]
    refine Ev.bind er ?_
    rw [hF]; exact jS _
   ·simp only [impl_IsHistory.l0, h1, Int.natCast_nonneg, if_true]
    refine Ev.bind eb' ?_
    simp only [hb, if_true]
    refine Ev.bind eq ?_
    exact jI _
  ·refine ⟨_, _, Ev.succ ?_, Ev.succ ?_, fin true⟩
   ·simp only [spec_IsHistory.l0, spec_l18Tx.f, h1, Int.natCast_nonneg, if_true, Option.bind_some]
    refine Ev.bind eb ?_
    simp only [hb, if_false]; exact jS true
   ·simp only [impl_IsHistory.l0, h1, Int.natCast_nonneg, if_true]
    refine Ev.bind eb' ?_
    simp only [hb, if_false]; exact jI true
 ·intro _ _ _
  refine ⟨u, v, Ev.succ ?_, Ev.succ ?_, huv⟩
  ·simp only [spec_IsHistory.l0, Int.lt_irrefl, if_false]; exact hu
  ·simp only [impl_IsHistory.l0, Int.lt_irrefl, if_false]; exact hv
theorem both_IsHistory (l : List S33) (hl : l.length ≤ 1048576) (hn : ∀ e ∈ l, fitd_Entry e) : ∃ r, Ev (fun k => spec_IsHistory.f k l) r ∧ Ev (fun k => impl_IsHistory.f k l) r ∧ True := by
 obtain ⟨x, y, h1, h2, hR⟩ := hist1 l hl hn
 by_cases c : (l.length : Int) > 9
 ·have d : ¬ (l.length : Int) ≤ 9 := by omega
  have hx : x = false := by rw [hR]; simp [d]
  subst hx
  refine ⟨false, h1, ?_, trivial⟩
  unfold impl_IsHistory.f
  simp only [c, if_true]; exact Ev.now _
 ·have d : (l.length : Int) ≤ 9 := by omega
  have hx : x = y := by rw [hR]; simp [d]
  subst hx
  refine ⟨x, h1, ?_, trivial⟩
  unfold impl_IsHistory.f
  simp only [c, if_false]; exact h2
def okR (m : S48) : Prop := 0 ≤ m.f0 ∧ m.f0 ≤ 5 ∧ 0 ≤ m.f1 ∧ m.f1 ≤ 999
def okW (w : S50) : Prop := 0 ≤ w.f0 ∧ w.f0 ≤ 5 ∧ -1 ≤ w.f1 ∧ w.f1 ≤ 99
def okE (e : S33) : Prop := (1 ≤ e.f0 ∧ e.f0 ≤ 9) ∧ (1 ≤ e.f1 ∧ e.f1 ≤ 999) ∧ e.f2.length ≤ 60 ∧ (∀ m ∈ e.f2, okR m) ∧ (∀ w ∈ e.f3, okW w) ∧ e.f3.length ≤ 6
theorem two_true {p q : Prop} [Decidable p] [Decidable q] (h : (decide p && decide q) = true) : p ∧ q := by
 rw [Bool.and_eq_true] at h
 exact ⟨of_decide_eq_true h.1, of_decide_eq_true h.2⟩
theorem reads_ok : ∀ (k : Nat) (x : List S48) (i : Nat), x.length ≤ 1048576 → impl_areReads.l0 k x x (x.length : Int) (i : Int) = some true → x.length ≤ 60 ∧ ∀ j (hj : j < x.length), i ≤ j → okR x[j] := by
 intro k
 induction k using Nat.strongRecOn with
 | _ k ih =>
 intro x i hx h
 cases k with
 | zero => exact absurd h (by simp [impl_areReads.l0])
 | succ k =>
 have good : ∀ m b, impl_areReads.j1 m x (i : Int) x (x.length : Int) b = some true → ∃ m', m = m' + 1 ∧ b = false ∧ impl_areReads.l0 m' x x (x.length : Int) (wrap64 ((i : Int) + 1)) = some true := by
  intro m b hj
  cases m with
  | zero => exact absurd hj (by simp [impl_areReads.j1])
  | succ m =>
   simp only [impl_areReads.j1] at hj
   cases b
   ·exact ⟨m, rfl, rfl, by simpa using hj⟩
   ·exact absurd hj (by simp)
 simp only [impl_areReads.l0] at h
 by_cases hi : i < x.length
 ·have h1 : (i : Int) < (x.length : Int) := by omega
  have hrd : rd_T48 x (i : Int) = x[i] := by simp [rd_T48, hi]
  simp only [h1, Int.natCast_nonneg, if_true, hrd, impl_isKey.f, in_eq, Option.bind_some] at h
  by_cases c1 : (decide (0 ≤ x[i].f0) && decide (x[i].f0 ≤ 5)) = true
  rotate_left
  ·rw [if_neg c1] at h; obtain ⟨_, _, e, _⟩ := good _ _ h; cases e
  rw [if_pos c1] at h
  by_cases c2 : (decide (0 ≤ x[i].f1) && decide (x[i].f1 ≤ 999)) = true
  rotate_left
  ·rw [if_neg c2] at h; obtain ⟨_, _, e, _⟩ := good _ _ h; cases e
  rw [if_pos c2] at h
  have hg : ∃ b, impl_areReads.j1 k x (i : Int) x (x.length : Int) b = some true := by
   split at h
   ·split at h
    ·split at h
     ·obtain ⟨t, _, h⟩ := Option.bind_eq_some_iff.mp h; exact ⟨_, h⟩
     ·exact absurd h (by simp)
    ·exact absurd h (by simp)
   ·exact ⟨_, h⟩
  obtain ⟨b, hg⟩ := hg
  obtain ⟨m', rfl, _, h'⟩ := good _ _ hg
  rw [wrap_up hi (by omega)] at h'
  obtain ⟨h60, hr⟩ := ih m' (by omega) x (i + 1) hx h'
  refine ⟨h60, fun j hj hij => ?_⟩
  rcases Nat.eq_or_lt_of_le hij with rfl | hlt
  ·obtain ⟨a, b⟩ := two_true c1; obtain ⟨c, d⟩ := two_true c2; exact ⟨a, b, c, d⟩
  ·exact hr j hj hlt
 ·have h1 : ¬ (i : Int) < (x.length : Int) := by omega
  simp only [h1, if_false, Option.some.injEq, decide_eq_true_eq] at h
  exact ⟨by omega, fun j hj hij => by omega⟩
theorem writes_ok : ∀ (k : Nat) (x : List S50) (i : Nat), x.length ≤ 1048576 → impl_areWrites.l0 k x x (x.length : Int) (i : Int) = some true → ∀ j (hj : j < x.length), i ≤ j → okW x[j] ∧ ∀ h0 : 0 < j, x[j - 1].f0 < x[j].f0 := by
 intro k
 induction k using Nat.strongRecOn with
 | _ k ih =>
 intro x i hx h
 cases k with
 | zero => exact absurd h (by simp [impl_areWrites.l0])
 | succ k =>
 have good : ∀ m b, impl_areWrites.j1 m x (i : Int) x (x.length : Int) b = some true → ∃ m', m = m' + 1 ∧ b = false ∧ impl_areWrites.l0 m' x x (x.length : Int) (wrap64 ((i : Int) + 1)) = some true := by
  intro m b hj
  cases m with
  | zero => exact absurd hj (by simp [impl_areWrites.j1])
  | succ m =>
   simp only [impl_areWrites.j1] at hj
   cases b
   ·exact ⟨m, rfl, rfl, by simpa using hj⟩
   ·exact absurd hj (by simp)
 simp only [impl_areWrites.l0] at h
 by_cases hi : i < x.length
 ·have h1 : (i : Int) < (x.length : Int) := by omega
  have hrd : rd_T50 x (i : Int) = x[i] := by simp [rd_T50, hi]
  simp only [h1, Int.natCast_nonneg, if_true, hrd, impl_isKey.f, impl_isValue.f, in_eq, Option.bind_some] at h
  by_cases c1 : (decide (0 ≤ x[i].f0) && decide (x[i].f0 ≤ 5)) = true
  rotate_left
  ·rw [if_neg c1] at h; obtain ⟨_, _, e, _⟩ := good _ _ h; cases e
  rw [if_pos c1] at h
  by_cases c2 : (decide (-1 ≤ x[i].f1) && decide (x[i].f1 ≤ 99)) = true
  rotate_left
  ·rw [if_neg c2] at h; obtain ⟨_, _, e, _⟩ := good _ _ h; cases e
  rw [if_pos c2] at h
  have hg : ∃ b, impl_areWrites.j1 k x (i : Int) x (x.length : Int) b = some true ∧ (b = false → ∀ h0 : 0 < i, x[i - 1].f0 < x[i].f0) := by
   by_cases h0 : 0 < i
   ·have h2 : (i : Int) > 0 := by omega
    have hw : wrap64 ((i : Int) - 1) = ((i - 1 : Nat) : Int) := wrap_down h0 (by omega)
    have h3 : ((i - 1 : Nat) : Int) < (x.length : Int) := by omega
    have hlt : i - 1 < x.length := by omega
    have hr1 : rd_T50 x ((i - 1 : Nat) : Int) = x[i - 1] := by simp [rd_T50, hlt]
    simp only [h2, hw, h3, hr1, Int.natCast_nonneg, if_true] at h
    refine ⟨_, h, fun hb _ => ?_⟩
    have := of_decide_eq_false hb
    omega
   ·have h2 : ¬ (i : Int) > 0 := by omega
    simp only [h2, if_false] at h
    exact ⟨_, h, fun _ h' => absurd h' h0⟩
  obtain ⟨b, hg, hinc⟩ := hg
  obtain ⟨m', rfl, rfl, h'⟩ := good _ _ hg
  rw [wrap_up hi (by omega)] at h'
  have hr := ih m' (by omega) x (i + 1) hx h'
  intro j hj hij
  rcases Nat.eq_or_lt_of_le hij with rfl | hlt
  ·obtain ⟨a, b⟩ := two_true c1; obtain ⟨c, d⟩ := two_true c2; exact ⟨⟨a, b, c, d⟩, hinc rfl⟩
  ·exact hr j hj hlt
 ·intro j hj hij
  omega
theorem writes_six (x : List S50) (h : ∀ j (hj : j < x.length), okW x[j] ∧ ∀ h0 : 0 < j, x[j - 1].f0 < x[j].f0) : x.length ≤ 6 := by
 have key : ∀ j (hj : j < x.length), (j : Int) ≤ x[j].f0 := by
  intro j
  induction j with
  | zero => intro hj; have := (h 0 hj).1.1; simpa using this
  | succ j ih =>
   intro hj
   have h1 := ih (by omega)
   have h2 := (h (j + 1) hj).2 (by omega)
   simp only [Nat.add_sub_cancel] at h2
   push_cast
   omega
 by_cases hl : x.length ≤ 6
 ·exact hl
 ·have h1 := key 6 (by omega)
  have h2 := (h 6 (by omega)).1.2.1
  omega
theorem entry_ok (k : Nat) (a0 a1 : Int) (rs : List S48) (ws : List S50) (hl : rs.length ≤ 1048576) (hw : ws.length ≤ 1048576) (h : impl_isEntry.f k a0 a1 rs ws = some true) : (1 ≤ a0 ∧ a0 ≤ 9) ∧ (1 ≤ a1 ∧ a1 ≤ 999) ∧ rs.length ≤ 60 ∧ (∀ m ∈ rs, okR m) ∧ (∀ w ∈ ws, okW w) ∧ ws.length ≤ 6 := by
 unfold impl_isEntry.f at h
 simp only [impl_isID.f, impl_IsStamp.f, in_eq, Option.bind_some] at h
 by_cases c1 : (decide (1 ≤ a0) && decide (a0 ≤ 9)) = true
 rotate_left
 ·rw [if_neg c1] at h; exact absurd h (by simp)
 rw [if_pos c1] at h
 by_cases c2 : (decide (1 ≤ a1) && decide (a1 ≤ 999)) = true
 rotate_left
 ·rw [if_neg c2] at h; exact absurd h (by simp)
 rw [if_pos c2] at h
 obtain ⟨t, hr, h⟩ := Option.bind_eq_some_iff.mp h
 cases t
 ·exact absurd h (by simp)
 simp only [if_true] at h
 obtain ⟨t, hwr, h⟩ := Option.bind_eq_some_iff.mp h
 obtain rfl : t = true := by simpa using h
 obtain ⟨h60, hro⟩ := reads_ok k rs 0 hl hr
 have hwo := writes_ok k ws 0 hw hwr
 refine ⟨two_true c1, two_true c2, h60, fun m hm => ?_, fun w hm => ?_, writes_six ws (fun j hj => hwo j hj (Nat.zero_le _))⟩
 ·obtain ⟨j, hj, rfl⟩ := List.mem_iff_getElem.mp hm
  exact hro j hj (Nat.zero_le _)
 ·obtain ⟨j, hj, rfl⟩ := List.mem_iff_getElem.mp hm
  exact (hwo j hj (Nat.zero_le _)).1
theorem hist_l0 : ∀ (k : Nat) (x : List S33) (i : Nat), x.length ≤ 1048576 → (∀ e ∈ x, fitd_Entry e) → impl_IsHistory.l0 k x x (x.length : Int) (i : Int) = some true → ∀ j (hj : j < x.length), i ≤ j → okE x[j] := by
 intro k
 induction k using Nat.strongRecOn with
 | _ k ih =>
 intro x i hx hn h
 cases k with
 | zero => exact absurd h (by simp [impl_IsHistory.l0])
 | succ k =>
 by_cases hi : i < x.length
 rotate_left
 ·intro j hj hij; omega
 have good2 : ∀ m b, impl_IsHistory.j2 m x (i : Int) x (x.length : Int) b = some true → ∃ m', m' < m ∧ impl_IsHistory.l0 m' x x (x.length : Int) (wrap64 ((i : Int) + 1)) = some true := by
  intro m b hj
  cases m with
  | zero => exact absurd hj (by simp [impl_IsHistory.j2])
  | succ m =>
   simp only [impl_IsHistory.j2] at hj
   cases b
   ·exact ⟨m, by omega, by simpa using hj⟩
   ·exact absurd hj (by simp)
 have good : ∀ m b (a0 a1 : Int) rs ws, impl_IsHistory.j1 m x (i : Int) x (x.length : Int) b a0 a1 rs ws = some true → b = false ∧ ∃ m', m' < m ∧ impl_IsHistory.l0 m' x x (x.length : Int) (wrap64 ((i : Int) + 1)) = some true := by
  intro m b a0 a1 rs ws hj
  cases m with
  | zero => exact absurd hj (by simp [impl_IsHistory.j1])
  | succ m =>
   simp only [impl_IsHistory.j1] at hj
   cases b
   ·refine ⟨rfl, ?_⟩
    simp only [Bool.false_eq_true, if_false] at hj
    repeat' (split at hj)
    all_goals (try contradiction)
    all_goals (obtain ⟨m', h1, h2⟩ := good2 _ _ hj; exact ⟨m', by omega, h2⟩)
   ·exact absurd hj (by simp)
 simp only [impl_IsHistory.l0] at h
 have h1 : (i : Int) < (x.length : Int) := by omega
 have hrd : rd_T33 x (i : Int) = x[i] := by simp [rd_T33, hi]
 simp only [h1, Int.natCast_nonneg, if_true, hrd] at h
 obtain ⟨t, he, h⟩ := Option.bind_eq_some_iff.mp h
 cases t
 ·simp only [Bool.false_eq_true, if_false] at h
  obtain ⟨e, _⟩ := good _ _ _ _ _ _ h; cases e
 simp only [if_true] at h
 obtain ⟨t, _, h⟩ := Option.bind_eq_some_iff.mp h
 obtain ⟨_, m', hm', h'⟩ := good _ _ _ _ _ _ h
 rw [wrap_up hi (by omega)] at h'
 have hf := hn _ (List.getElem_mem hi)
 unfold fitd_Entry at hf
 intro j hj hij
 rcases Nat.eq_or_lt_of_le hij with rfl | hlt
 ·exact entry_ok _ _ _ _ _ (by omega) (by omega) he
 ·exact ih m' (by omega) x (i + 1) hx hn h' j hj hlt
theorem hist_ok (x : List S33) (hx : x.length ≤ 1048576) (hn : ∀ e ∈ x, fitd_Entry e) (h : Ev (fun k => impl_IsHistory.f k x) true) : x.length ≤ 9 ∧ ∀ e ∈ x, okE e := by
 obtain ⟨k, h⟩ := Ev.rounds h
 unfold impl_IsHistory.f at h
 by_cases c : (x.length : Int) > 9
 ·rw [if_pos c] at h; exact absurd h (by simp)
 rw [if_neg c] at h
 refine ⟨by omega, fun e he => ?_⟩
 obtain ⟨j, hj, rfl⟩ := List.mem_iff_getElem.mp he
 exact hist_l0 k x 0 hx hn h j hj (Nat.zero_le _)
def tx (n : Int) : ByteArray := (impl_FormatInt.f n).getD ⟨#[]⟩
def vx (n : Int) : ByteArray := (impl_formatValue.f n).getD ⟨#[]⟩
theorem tx_spec (n : Int) (h0 : 0 ≤ n) (h1 : n < 1000) : Ev (fun k => spec_FormatInt.f k n) (tx n) ∧ impl_FormatInt.f n = some (tx n) ∧ (tx n).size ≤ 20 := by
 obtain ⟨m, rfl⟩ := Int.eq_ofNat_of_zero_le h0
 have hm : m < 1000 := by omega
 have key : ∀ i : Fin 1000, spec_FormatInt.f 6 ((i.val : Nat) : Int) = impl_FormatInt.f ((i.val : Nat) : Int) ∧ ((impl_FormatInt.f ((i.val : Nat) : Int)).elim false (fun t => decide (t.size ≤ 20))) = true := by decide +kernel
 obtain ⟨k1, k2⟩ := key ⟨m, hm⟩
 dsimp only at k1 k2
 cases hx : impl_FormatInt.f (m : Int) with
 | none => rw [hx] at k2; exact absurd k2 (by decide)
 | some t =>
  have he : tx (m : Int) = t := by unfold tx; rw [hx]; rfl
  rw [hx] at k1 k2; rw [he]; exact ⟨Ev.of (spec_FormatInt.mono _) k1, rfl, of_decide_eq_true k2⟩
theorem vx_spec (n : Int) (h0 : -1 ≤ n) (h1 : n < 1000) : Ev (fun k => spec_l3Value.f k n) (vx n) ∧ impl_formatValue.f n = some (vx n) ∧ (vx n).size ≤ 20 := by
 by_cases h : n = -1
 ·subst h
  refine ⟨?_, rfl, by decide⟩
  unfold spec_l3Value.f
  simp only [if_true]; exact Ev.now _
 ·obtain ⟨e, i, hs⟩ := tx_spec n (by omega) h1
  have hi : impl_formatValue.f n = some (tx n) := by unfold impl_formatValue.f; rw [if_neg h, i]; rfl
  have he : vx n = tx n := by unfold vx; rw [hi]; rfl
  rw [he]
  refine ⟨?_, hi, hs⟩
  unfold spec_l3Value.f
  simp only [if_neg h]
  exact Ev.bind e (Ev.now _)
theorem cat_data (a b : ByteArray) : (a ++ b).data.toList = a.data.toList ++ b.data.toList := by simp [ByteArray.data_append]
theorem len_data (a : ByteArray) : a.data.toList.length = a.size := Array.length_toList
theorem of_data (a : ByteArray) (x : List UInt8) (h : a.data.toList = x) : a = ⟨x.toArray⟩ := by
 subst h
 cases a; simp
theorem eq_data {a b : ByteArray} (h : a.data.toList = b.data.toList) : a = b := by rw [of_data a _ h, ← of_data b _ rfl]
theorem s1 (b : UInt8) : (⟨#[b]⟩ : ByteArray).size = 1 := rfl
theorem s2 (b c : UInt8) : (⟨#[b, c]⟩ : ByteArray).size = 2 := rfl
def JS (sep : List UInt8) (xs : List ByteArray) : List UInt8 := Lib.join (xs.map (·.data.toList)) sep
theorem JS_one (sep : List UInt8) (t : ByteArray) : JS sep ([] ++ [t]) = t.data.toList := by
 show Lib.join [t.data.toList] sep = _
 exact Lib.join_one _ _
theorem JS_snoc (sep : List UInt8) (xs : List ByteArray) (t : ByteArray) (h : 0 < xs.length) : JS sep (xs ++ [t]) = JS sep xs ++ sep ++ t.data.toList := by
 cases xs with
 | nil => exact absurd h (by simp)
 | cons x r =>
  unfold JS
  simp only [List.cons_append, List.map_cons, List.map_append, List.map_nil, Lib.join_cons]
  have := Lib.joinTail_take_succ sep (r.map (·.data.toList) ++ [t.data.toList]) r.length t.data.toList (by simp)
  have e1 : (r.map (·.data.toList) ++ [t.data.toList]).take (r.length + 1) = r.map (·.data.toList) ++ [t.data.toList] := List.take_of_length_le (by simp)
  have e2 : (r.map (·.data.toList) ++ [t.data.toList]).take r.length = r.map (·.data.toList) := by rw [List.take_append_of_le_length (by simp), List.take_of_length_le (by simp)]
  rw [e1, e2] at this
  rw [this]
  simp only [List.append_assoc]
theorem take_map {α : Type} (f : α → List UInt8) (l : List α) (i : Nat) (h : i < l.length) : ((l.take (i + 1)).map f).flatten = ((l.take i).map f).flatten ++ f l[i] := by
 rw [List.take_succ_eq_append_getElem h, List.map_append, List.flatten_append]
 simp
def rdT (m : S48) : List UInt8 := [32, 114] ++ (tx m.f0).data.toList ++ [58] ++ (tx m.f1).data.toList
def wrT (w : S50) : List UInt8 := [32, 119] ++ (tx w.f0).data.toList ++ [58] ++ (vx w.f1).data.toList
def acT (rs : List S48) (ws : List S50) : List UInt8 := (rs.map rdT).flatten ++ (ws.map wrT).flatten
theorem acc_l1 (ws : List S50) (hw : ws.length ≤ 1048576) (okw : ∀ w ∈ ws, okW w) (s0 : ByteArray) (hs0 : s0.size ≤ 1000000000) : ∃ r, Ev (fun k => impl_formatAccesses.l1 k s0 ws (ws.length : Int) ((0 : Nat) : Int)) r ∧ (r.data.toList = s0.data.toList ++ (ws.map wrT).flatten ∧ r.size ≤ s0.size + 50 * ws.length) := by
 refine ev_to (σ := ByteArray) (fun s i k => impl_formatAccesses.l1 k s ws (ws.length : Int) (i : Int)) ws.length (fun s i => s.data.toList = s0.data.toList ++ ((ws.take i).map wrT).flatten ∧ s.size ≤ s0.size + 50 * i) (fun r => r.data.toList = s0.data.toList ++ (ws.map wrT).flatten ∧ r.size ≤ s0.size + 50 * ws.length) ?_ ?_ s0 0 (Nat.zero_le _) ⟨by simp, by omega⟩
 ·rintro s i hi ⟨hd, hs⟩ ih
  have h1 : (i : Int) < (ws.length : Int) := by omega
  have hrd : rd_T50 ws (i : Int) = ws[i] := by simp [rd_T50, hi]
  have ho := okw _ (List.getElem_mem hi)
  unfold okW at ho
  obtain ⟨_, i0, z0⟩ := tx_spec ws[i].f0 (by omega) (by omega)
  obtain ⟨_, i1, z1⟩ := vx_spec ws[i].f1 (by omega) (by omega)
  have q1 : 2 + (tx ws[i].f0).size ≤ 9223372036854775807 := by omega
  have q2 : ((⟨#[32, 119]⟩ : ByteArray) ++ tx ws[i].f0).size + 1 ≤ 9223372036854775807 := by simp only [ByteArray.size_append, s2]; omega
  have q3 : (((⟨#[32, 119]⟩ : ByteArray) ++ tx ws[i].f0) ++ (⟨#[58]⟩ : ByteArray)).size + (vx ws[i].f1).size ≤ 9223372036854775807 := by simp only [ByteArray.size_append, s1, s2]; omega
  have q4 : s.size + ((((⟨#[32, 119]⟩ : ByteArray) ++ tx ws[i].f0) ++ (⟨#[58]⟩ : ByteArray)) ++ vx ws[i].f1).size ≤ 140737488355328 := by simp only [ByteArray.size_append, s1, s2]; omega
  obtain ⟨r, hr, hR⟩ := ih (s ++ ((((⟨#[32, 119]⟩ : ByteArray) ++ tx ws[i].f0) ++ (⟨#[58]⟩ : ByteArray)) ++ vx ws[i].f1)) ⟨by
   rw [take_map wrT ws i hi, ← List.append_assoc, ← hd]
   simp only [cat_data, wrT], by simp only [ByteArray.size_append, s1, s2]; omega⟩
  refine ⟨r, Ev.succ ?_, hR⟩
  simp only [impl_formatAccesses.l1, h1, Int.natCast_nonneg, if_true, hrd, i0, i1, Option.bind_some, q1, q2, q3, strings_Builder_WriteString.f, q4, wrap_up hi (by omega)]
  exact hr
 ·rintro s ⟨hd, hs⟩
  rw [List.take_length] at hd
  refine ⟨s, Ev.succ ?_, hd, hs⟩
  simp only [impl_formatAccesses.l1, Int.lt_irrefl, if_false, strings_Builder_String.f, Option.bind_some]; exact Ev.now _
theorem acc_impl (rs : List S48) (ws : List S50) (hr : rs.length ≤ 1048576) (hw : ws.length ≤ 1048576) (okr : ∀ m ∈ rs, okR m) (okw : ∀ w ∈ ws, okW w) : ∃ r, Ev (fun k => impl_formatAccesses.f k rs ws) r ∧ (r.data.toList = acT rs ws ∧ r.size ≤ 50 * rs.length + 50 * ws.length) := by
 unfold impl_formatAccesses.f
 refine ev_to (σ := ByteArray) (fun s i k => impl_formatAccesses.l0 k ws s rs (rs.length : Int) (i : Int)) rs.length (fun s i => s.data.toList = ((rs.take i).map rdT).flatten ∧ s.size ≤ 50 * i) (fun r => r.data.toList = acT rs ws ∧ r.size ≤ 50 * rs.length + 50 * ws.length) ?_ ?_ ⟨#[]⟩ 0 (Nat.zero_le _) ⟨rfl, by decide⟩
 ·rintro s i hi ⟨hd, hs⟩ ih
  have h1 : (i : Int) < (rs.length : Int) := by omega
  have hrd : rd_T48 rs (i : Int) = rs[i] := by simp [rd_T48, hi]
  have ho := okr _ (List.getElem_mem hi)
  unfold okR at ho
  obtain ⟨_, i0, z0⟩ := tx_spec rs[i].f0 (by omega) (by omega)
  obtain ⟨_, i1, z1⟩ := tx_spec rs[i].f1 (by omega) (by omega)
  have q1 : 2 + (tx rs[i].f0).size ≤ 9223372036854775807 := by omega
  have q2 : ((⟨#[32, 114]⟩ : ByteArray) ++ tx rs[i].f0).size + 1 ≤ 9223372036854775807 := by simp only [ByteArray.size_append, s2]; omega
  have q3 : (((⟨#[32, 114]⟩ : ByteArray) ++ tx rs[i].f0) ++ (⟨#[58]⟩ : ByteArray)).size + (tx rs[i].f1).size ≤ 9223372036854775807 := by simp only [ByteArray.size_append, s1, s2]; omega
  have q4 : s.size + ((((⟨#[32, 114]⟩ : ByteArray) ++ tx rs[i].f0) ++ (⟨#[58]⟩ : ByteArray)) ++ tx rs[i].f1).size ≤ 140737488355328 := by simp only [ByteArray.size_append, s1, s2]; omega
  obtain ⟨r, hr, hR⟩ := ih (s ++ ((((⟨#[32, 114]⟩ : ByteArray) ++ tx rs[i].f0) ++ (⟨#[58]⟩ : ByteArray)) ++ tx rs[i].f1)) ⟨by
   rw [take_map rdT rs i hi, ← hd]
   simp only [cat_data, rdT], by simp only [ByteArray.size_append, s1, s2]; omega⟩
  refine ⟨r, Ev.succ ?_, hR⟩
  simp only [impl_formatAccesses.l0, h1, Int.natCast_nonneg, if_true, hrd, i0, i1, Option.bind_some, q1, q2, q3, strings_Builder_WriteString.f, q4, wrap_up hi (by omega)]
  exact hr
 ·rintro s ⟨hd, hs⟩
  rw [List.take_length] at hd
  obtain ⟨r, hr, hR, hz⟩ := acc_l1 ws hw okw s (by omega)
  refine ⟨r, Ev.succ ?_, by rw [hR, hd]; rfl, by omega⟩
  simp only [impl_formatAccesses.l0, Int.lt_irrefl, if_false]; exact hr
theorem acc_spec (l : List S33) (i : Nat) (hi : i < l.length) (hlen : l.length ≤ 9) (hr : l[i].f2.length ≤ 1048576) (hw : l[i].f3.length ≤ 1048576) (okr : ∀ m ∈ l[i].f2, okR m) (okw : ∀ w ∈ l[i].f3, okW w) (s0 : ByteArray) (hs0 : s0.size ≤ 10000000000) (Q : ByteArray → Prop)
  (cont : ∀ y : ByteArray, y.data.toList = s0.data.toList ++ acT l[i].f2 l[i].f3 → y.size ≤ s0.size + 50 * l[i].f2.length + 50 * l[i].f3.length → ∃ r, Ev (fun k => spec_FormatHistory.l0 k l y ((i + 1 : Nat) : Int)) r ∧ Q r) :
  ∃ r, Ev (fun k => spec_FormatHistory.l1 k l s0 (i : Int) ((0 : Nat) : Int)) r ∧ Q r := by
 have hi1 : (i : Int) < (l.length : Int) := by omega
 have hre : rd_T33 l (i : Int) = l[i] := by simp [rd_T33, hi]
 refine ev_to (σ := ByteArray) (fun s j k => spec_FormatHistory.l1 k l s (i : Int) (j : Int)) l[i].f2.length (fun s j => s.data.toList = s0.data.toList ++ ((l[i].f2.take j).map rdT).flatten ∧ s.size ≤ s0.size + 50 * j) Q ?_ ?_ s0 0 (Nat.zero_le _) ⟨by simp, by omega⟩
 ·rintro s j hj ⟨hd, hs⟩ ih
  have h1 : (j : Int) < (l[i].f2.length : Int) := by omega
  have hrd : rd_T48 l[i].f2 (j : Int) = l[i].f2[j] := by simp [rd_T48, hj]
  have ho := okr _ (List.getElem_mem hj)
  unfold okR at ho
  obtain ⟨e0, _, z0⟩ := tx_spec l[i].f2[j].f0 (by omega) (by omega)
  obtain ⟨e1, _, z1⟩ := tx_spec l[i].f2[j].f1 (by omega) (by omega)
  have q1 : s.size + 2 ≤ 9223372036854775807 := by omega
  have q2 : (s ++ (⟨#[32, 114]⟩ : ByteArray)).size + (tx l[i].f2[j].f0).size ≤ 9223372036854775807 := by simp only [ByteArray.size_append, s2]; omega
  have q3 : ((s ++ (⟨#[32, 114]⟩ : ByteArray)) ++ tx l[i].f2[j].f0).size + 1 ≤ 9223372036854775807 := by simp only [ByteArray.size_append, s2]; omega
  have q4 : (((s ++ (⟨#[32, 114]⟩ : ByteArray)) ++ tx l[i].f2[j].f0) ++ (⟨#[58]⟩ : ByteArray)).size + (tx l[i].f2[j].f1).size ≤ 9223372036854775807 := by simp only [ByteArray.size_append, s1, s2]; omega
  obtain ⟨r, hr, hR⟩ := ih ((((s ++ (⟨#[32, 114]⟩ : ByteArray)) ++ tx l[i].f2[j].f0) ++ (⟨#[58]⟩ : ByteArray)) ++ tx l[i].f2[j].f1) ⟨by
   rw [take_map rdT l[i].f2 j hj, ← List.append_assoc, ← hd]
   simp only [cat_data, rdT, List.append_assoc], by simp only [ByteArray.size_append, s1, s2]; omega⟩
  refine ⟨r, Ev.succ ?_, hR⟩
  simp only [spec_FormatHistory.l1, h1, hi1, Int.natCast_nonneg, if_true, hre, hrd, q1]
  refine Ev.bind e0 ?_
  simp only [q2, q3, if_true]
  refine Ev.bind e1 ?_
  simp only [q4, if_true, wrap_up hj (by omega)]
  exact hr
 ·rintro s ⟨hd, hs⟩
  rw [List.take_length] at hd
  have h2 : ∃ r, Ev (fun k => spec_FormatHistory.l2 k l s (i : Int) ((0 : Nat) : Int)) r ∧ Q r := by
   refine ev_to (σ := ByteArray) (fun u j k => spec_FormatHistory.l2 k l u (i : Int) (j : Int)) l[i].f3.length (fun u j => u.data.toList = s.data.toList ++ ((l[i].f3.take j).map wrT).flatten ∧ u.size ≤ s.size + 50 * j) Q ?_ ?_ s 0 (Nat.zero_le _) ⟨by simp, by omega⟩
   ·rintro u j hj ⟨hu, hz⟩ ih
    have h1 : (j : Int) < (l[i].f3.length : Int) := by omega
    have hrd : rd_T50 l[i].f3 (j : Int) = l[i].f3[j] := by simp [rd_T50, hj]
    have ho := okw _ (List.getElem_mem hj)
    unfold okW at ho
    obtain ⟨e0, _, z0⟩ := tx_spec l[i].f3[j].f0 (by omega) (by omega)
    obtain ⟨e1, _, z1⟩ := vx_spec l[i].f3[j].f1 (by omega) (by omega)
    have q1 : u.size + 2 ≤ 9223372036854775807 := by omega
    have q2 : (u ++ (⟨#[32, 119]⟩ : ByteArray)).size + (tx l[i].f3[j].f0).size ≤ 9223372036854775807 := by simp only [ByteArray.size_append, s2]; omega
    have q3 : ((u ++ (⟨#[32, 119]⟩ : ByteArray)) ++ tx l[i].f3[j].f0).size + 1 ≤ 9223372036854775807 := by simp only [ByteArray.size_append, s2]; omega
    have q4 : (((u ++ (⟨#[32, 119]⟩ : ByteArray)) ++ tx l[i].f3[j].f0) ++ (⟨#[58]⟩ : ByteArray)).size + (vx l[i].f3[j].f1).size ≤ 9223372036854775807 := by simp only [ByteArray.size_append, s1, s2]; omega
    obtain ⟨r, hr, hR⟩ := ih ((((u ++ (⟨#[32, 119]⟩ : ByteArray)) ++ tx l[i].f3[j].f0) ++ (⟨#[58]⟩ : ByteArray)) ++ vx l[i].f3[j].f1) ⟨by
     rw [take_map wrT l[i].f3 j hj, ← List.append_assoc, ← hu]
     simp only [cat_data, wrT, List.append_assoc], by simp only [ByteArray.size_append, s1, s2]; omega⟩
    refine ⟨r, Ev.succ ?_, hR⟩
    simp only [spec_FormatHistory.l2, h1, hi1, Int.natCast_nonneg, if_true, hre, hrd, q1]
    refine Ev.bind e0 ?_
    simp only [q2, q3, if_true]
    refine Ev.bind e1 ?_
    simp only [q4, if_true, wrap_up hj (by omega)]
    exact hr
   ·rintro u ⟨hu, hz⟩
    rw [List.take_length] at hu
    obtain ⟨r, hr, hR⟩ := cont u (by rw [hu, hd, List.append_assoc]; rfl) (by omega)
    refine ⟨r, Ev.succ ?_, hR⟩
    simp only [spec_FormatHistory.l2, hi1, Int.natCast_nonneg, if_true, hre, Int.lt_irrefl, if_false, wrap_up hi (by omega)]
    exact hr
  obtain ⟨r, hr, hR⟩ := h2
  refine ⟨r, Ev.succ ?_, hR⟩
  simp only [spec_FormatHistory.l1, hi1, Int.natCast_nonneg, if_true, hre, Int.lt_irrefl, if_false]
  exact hr
def enL (e : S33) : List UInt8 := (tx e.f0).data.toList ++ [64] ++ (tx e.f1).data.toList ++ acT e.f2 e.f3
set_option maxHeartbeats 8000000 in
theorem hist_loops (l : List S33) (hlen : l.length ≤ 9) (hok : ∀ e ∈ l, okE e) : ∃ r q, Ev (fun k => spec_FormatHistory.l0 k l ⟨#[]⟩ ((0 : Nat) : Int)) r ∧ Ev (fun k => impl_FormatHistory.l0 k [] l (l.length : Int) ((0 : Nat) : Int)) q ∧ (r = q ∧ r.data.toList = Lib.join (l.map enL) [59, 32]) := by
 refine ev_two (σ := ByteArray) (τ := List ByteArray) (fun s i k => spec_FormatHistory.l0 k l s (i : Int)) (fun xs i k => impl_FormatHistory.l0 k xs l (l.length : Int) (i : Int)) l.length (fun s xs i => xs.length = i ∧ s.data.toList = JS [59, 32] xs ∧ s.size ≤ 10000 * i ∧ xs.map (·.data.toList) = (l.take i).map enL) (fun r q => r = q ∧ r.data.toList = Lib.join (l.map enL) [59, 32]) ?_ ?_ ⟨#[]⟩ [] 0 (Nat.zero_le _) ⟨rfl, rfl, by decide, rfl⟩
 ·rintro s xs i hi ⟨hx, hj, hs, hmp⟩ ih
  have h1 : (i : Int) < (l.length : Int) := by omega
  have hre : rd_T33 l (i : Int) = l[i] := by simp [rd_T33, hi]
  have e0 := wrap_up hi (by omega)
  obtain ⟨hid, hst, h60, okr, okw, h6⟩ := hok _ (List.getElem_mem hi)
  obtain ⟨en, im, zn⟩ := tx_spec l[i].f0 (by omega) (by omega)
  obtain ⟨es, is_, zs⟩ := tx_spec l[i].f1 (by omega) (by omega)
  obtain ⟨t, et, ht, zt⟩ := acc_impl l[i].f2 l[i].f3 (by omega) (by omega) okr okw
  have hxl : xs.length < 8796093022208 := by omega
  have hmn : (xs ++ [((tx l[i].f0 ++ (⟨#[64]⟩ : ByteArray)) ++ tx l[i].f1) ++ t]).map (·.data.toList) = (l.take (i + 1)).map enL := by
   rw [List.take_succ_eq_append_getElem hi, List.map_append, List.map_append, hmp]
   simp only [List.map_cons, List.map_nil, cat_data, ht, enL]
  have go : ∀ s1_ : ByteArray, s1_.data.toList ++ (tx l[i].f0).data.toList ++ [64] ++ (tx l[i].f1).data.toList ++ t.data.toList = JS [59, 32] (xs ++ [((tx l[i].f0 ++ (⟨#[64]⟩ : ByteArray)) ++ tx l[i].f1) ++ t]) → s1_.size ≤ 10000 * i + 2 →
    ∃ r, Ev (fun k => spec_FormatHistory.j1 k l s1_ (i : Int)) r ∧ ∃ q, Ev (fun k => impl_FormatHistory.l0 k (xs ++ [((tx l[i].f0 ++ (⟨#[64]⟩ : ByteArray)) ++ tx l[i].f1) ++ t]) l (l.length : Int) ((i + 1 : Nat) : Int)) q ∧ (r = q ∧ r.data.toList = Lib.join (l.map enL) [59, 32]) := by
   intro s1_ hjn hz
   have q1 : s1_.size + (tx l[i].f0).size ≤ 9223372036854775807 := by omega
   have q2 : (s1_ ++ tx l[i].f0).size + 1 ≤ 9223372036854775807 := by simp only [ByteArray.size_append]; omega
   have q3 : ((s1_ ++ tx l[i].f0) ++ (⟨#[64]⟩ : ByteArray)).size + (tx l[i].f1).size ≤ 9223372036854775807 := by simp only [ByteArray.size_append, s1]; omega
   obtain ⟨r, hr, hR⟩ := acc_spec l i hi hlen (by omega) (by omega) okr okw (((s1_ ++ tx l[i].f0) ++ (⟨#[64]⟩ : ByteArray)) ++ tx l[i].f1) (by simp only [ByteArray.size_append, s1]; omega)
    (fun r => ∃ q, Ev (fun k => impl_FormatHistory.l0 k (xs ++ [((tx l[i].f0 ++ (⟨#[64]⟩ : ByteArray)) ++ tx l[i].f1) ++ t]) l (l.length : Int) ((i + 1 : Nat) : Int)) q ∧ (r = q ∧ r.data.toList = Lib.join (l.map enL) [59, 32])) (fun y hy hyz => by
     obtain ⟨r, q, hr, hq, hR⟩ := ih y (xs ++ [((tx l[i].f0 ++ (⟨#[64]⟩ : ByteArray)) ++ tx l[i].f1) ++ t]) ⟨by simp [hx], by
      rw [hy, ← hjn, ← ht]; simp only [cat_data, List.append_assoc], by simp only [ByteArray.size_append, s1] at hyz; omega, hmn⟩
     exact ⟨r, hr, q, hq, hR⟩)
   refine ⟨r, Ev.succ ?_, hR⟩
   simp only [spec_FormatHistory.j1, h1, Int.natCast_nonneg, if_true, hre]
   refine Ev.bind en ?_
   simp only [q1, q2, if_true]
   refine Ev.bind es ?_
   simp only [q3, if_true]
   exact hr
  have q5 : (tx l[i].f0).size + 1 ≤ 9223372036854775807 := by omega
  have q6 : (tx l[i].f0 ++ (⟨#[64]⟩ : ByteArray)).size + (tx l[i].f1).size ≤ 9223372036854775807 := by simp only [ByteArray.size_append, s1]; omega
  have q7 : ((tx l[i].f0 ++ (⟨#[64]⟩ : ByteArray)) ++ tx l[i].f1).size + t.size ≤ 9223372036854775807 := by simp only [ByteArray.size_append, s1]; omega
  have im_ : ∀ q, Ev (fun k => impl_FormatHistory.l0 k (xs ++ [((tx l[i].f0 ++ (⟨#[64]⟩ : ByteArray)) ++ tx l[i].f1) ++ t]) l (l.length : Int) ((i + 1 : Nat) : Int)) q → Ev (fun k => impl_FormatHistory.l0 k xs l (l.length : Int) (i : Int)) q := by
   intro q hq
   apply Ev.succ
   simp only [impl_FormatHistory.l0, h1, Int.natCast_nonneg, if_true, hre, im, is_, Option.bind_some, q5, q6]
   refine Ev.bind et ?_
   simp only [q7, hxl, if_true, e0]
   exact hq
  by_cases h0 : 0 < i
  ·have h3 : (i : Int) > 0 := by omega
   have z1 : s.size + 2 ≤ 9223372036854775807 := by omega
   obtain ⟨r, hr, q, hq, hR⟩ := go (s ++ (⟨#[59, 32]⟩ : ByteArray)) (by rw [JS_snoc _ xs _ (by omega), ← hj]; simp only [cat_data, List.append_assoc]) (by simp only [ByteArray.size_append, s2]; omega)
   refine ⟨r, q, Ev.succ ?_, im_ q hq, hR⟩
   simp only [spec_FormatHistory.l0, h1, h3, z1, if_true]; exact hr
  ·obtain rfl : i = 0 := by omega
   have hx0 : xs = [] := List.eq_nil_of_length_eq_zero hx
   subst hx0
   have h3 : ¬ ((0 : Nat) : Int) > 0 := by omega
   have hs0 : s.data.toList = [] := hj
   obtain ⟨r, hr, q, hq, hR⟩ := go s (by rw [JS_one, hs0]; simp only [cat_data, List.append_assoc, List.nil_append]) (by omega)
   refine ⟨r, q, Ev.succ ?_, im_ q hq, hR⟩
   simp only [spec_FormatHistory.l0, h1, h3, if_true, if_false]; exact hr
 ·rintro s xs ⟨hx, hj, hs, hmp⟩
  refine ⟨s, s, Ev.succ ?_, Ev.succ ?_, rfl, by rw [hj, JS, hmp, List.take_length]⟩
  ·simp only [spec_FormatHistory.l0, Int.lt_irrefl, if_false]; exact Ev.now _
  ·simp only [impl_FormatHistory.l0, Int.lt_irrefl, if_false]
   have q0 : xs.length ≤ 140737488355328 := by omega
   have hJ : Lib.join (xs.map (·.data.toList)) (⟨#[59, 32]⟩ : ByteArray).data.toList = s.data.toList := hj.symm
   have q1 : (Lib.join (xs.map (·.data.toList)) (⟨#[59, 32]⟩ : ByteArray).data.toList).length ≤ 140737488355328 := by rw [hJ, len_data]; omega
   have hs' : strings_Join.f xs (⟨#[59, 32]⟩ : ByteArray) = some s := by
    unfold strings_Join.f
    rw [if_pos q0, if_pos q1, hJ, ← of_data s _ rfl]
   simp only [hs', Option.bind_some]; exact Ev.now _
theorem both_FormatHistory (l : List S33) (hl : l.length ≤ 1048576) (hn : ∀ e ∈ l, fitd_Entry e) : ∃ r, Ev (fun k => spec_FormatHistory.f k l) r ∧ Ev (fun k => impl_FormatHistory.f k l) r ∧ (r.toList = [] ∨ r.toList = [110, 111, 110, 101] ∨ (l.length ≤ 9 ∧ 0 < l.length ∧ (∀ e ∈ l, okE e) ∧ r.data.toList = Lib.join (l.map enL) [59, 32])) := by
 obtain ⟨b, e1, e2, _⟩ := both_IsHistory l hl hn
 by_cases h0 : (l.length : Int) = 0
 ·have hb : b = true := by
   have hnil : l = [] := List.eq_nil_of_length_eq_zero (by omega)
   subst hnil
   refine Ev.uniq e2 (Ev.of ?_ (k := 3) ?_)
   ·exact impl_IsHistory.mono _
   ·rfl
  subst hb
  refine ⟨⟨#[110, 111, 110, 101]⟩, ?_, ?_, .inr (.inl (by rw [ByteArray.toList_eq]))⟩
  ·unfold spec_FormatHistory.f
   refine Ev.bind e1 ?_
   simp only [if_true, h0]; exact Ev.now _
  ·unfold impl_FormatHistory.f
   simp only [if_true, h0]; exact Ev.now _
 cases b
 ·refine ⟨⟨#[]⟩, ?_, ?_, .inl (by rw [ByteArray.toList_eq])⟩
  ·unfold spec_FormatHistory.f
   refine Ev.bind e1 ?_
   simp only [Bool.false_eq_true, if_false]; exact Ev.now _
  ·unfold impl_FormatHistory.f
   simp only [h0, if_false]
   refine Ev.bind e2 ?_
   simp only [Bool.false_eq_true, if_false]; exact Ev.now _
 ·obtain ⟨h9, hok⟩ := hist_ok l hl hn e2
  obtain ⟨r, q, hr, hq, rfl, htx⟩ := hist_loops l h9 hok
  refine ⟨r, ?_, ?_, .inr (.inr ⟨h9, by omega, hok, htx⟩)⟩
  ·unfold spec_FormatHistory.f
   refine Ev.bind e1 ?_
   simp only [if_true, h0, if_false]; exact hr
  ·unfold impl_FormatHistory.f
   simp only [h0, if_false]
   refine Ev.bind e2 ?_
   simp only [if_true]; exact hq
theorem idx_at (t : ByteArray) (c : UInt8) (i : Nat) (hi : t.data.toList[i]? = some c) (hb : ∀ k, k < i → t.data.toList[k]? ≠ some c) : Lib.indexB t (⟨#[c]⟩ : ByteArray) = (i : Int) := by
 have e : Lib.indexB t (⟨#[c]⟩ : ByteArray) = Lib.indexByte t.data.toList c := Lib.index_one _ _
 rw [e]
 have hge := Lib.indexByte_ge t.data.toList c
 by_cases h : Lib.indexByte t.data.toList c = -1
 ·exact absurd hi (Lib.indexByte_none h i)
 ·obtain ⟨o, ho⟩ := Int.eq_ofNat_of_zero_le (show 0 ≤ Lib.indexByte t.data.toList c by omega)
  obtain ⟨h1, h2⟩ := Lib.indexByte_some ho
  rcases Nat.lt_trichotomy o i with hlt | heq | hgt
  ·exact absurd h1 (hb o hlt)
  ·rw [ho, heq]
  ·exact absurd hi (h2 i hgt)
theorem idx_none (t : ByteArray) (c : UInt8) (hb : ∀ k : Nat, t.data.toList[k]? ≠ some c) : Lib.indexB t (⟨#[c]⟩ : ByteArray) = -1 := by
 have e : Lib.indexB t (⟨#[c]⟩ : ByteArray) = Lib.indexByte t.data.toList c := Lib.index_one _ _
 rw [e]
 have hge := Lib.indexByte_ge t.data.toList c
 by_cases h : Lib.indexByte t.data.toList c = -1
 ·exact h
 ·obtain ⟨o, ho⟩ := Int.eq_ofNat_of_zero_le (show 0 ≤ Lib.indexByte t.data.toList c by omega)
  exact absurd (Lib.indexByte_some ho).1 (hb o)
theorem bt_byte (s : ByteArray) (m : Nat) (c : UInt8) (hm : m < s.size) : bt s (m : Int) = (c.toNat : Int) ↔ s.data.toList[m]? = some c := by
 have e : s.data.toList[m]? = some s[m] := by
  rw [Array.getElem?_toList]; exact Array.getElem?_eq_getElem hm
 have e2 : bt s (m : Int) = (s[m].toNat : Int) := by
  unfold bt
  simp only [Int.toNat_natCast, hm, dif_pos]
 rw [e, e2]
 constructor
 ·intro h
  have : s[m].toNat = c.toNat := by omega
  rw [UInt8.toNat_inj.mp this]
 ·intro h; rw [Option.some.inj h]
theorem ext_at (s : ByteArray) (i k : Nat) : (s.extract i s.size).data.toList[k]? = s.data.toList[i + k]? := by
 have hs : s.size = s.data.toList.length := by rw [Array.length_toList]; rfl
 rw [ByteArray.data_extract, Array.toList_extract, List.extract_eq_take_drop, List.getElem?_take, List.getElem?_drop, hs]
 split
 ·rfl
 ·symm; rw [List.getElem?_eq_none]; omega
def pieces (c : UInt8) (t : ByteArray) : List ByteArray := Lib.splitB (⟨#[c]⟩ : ByteArray) 0 (Lib.countB t (⟨#[c]⟩ : ByteArray)) t
theorem cut_split (s : ByteArray) (c : UInt8) (hs : s.size ≤ 1048576) : Ev (fun k => spec_l2Cut.f k s (c.toNat : Int)) (pieces c s) := by
 have go : ∀ (d j i : Nat) (acc : List ByteArray), j + d = s.size → i ≤ j → acc.length ≤ j → (∀ m, i ≤ m → m < j → s.data.toList[m]? ≠ some c) → Ev (fun k => spec_l2Cut.l0 k s (c.toNat : Int) acc (i : Int) (j : Int)) (acc ++ pieces c (s.extract i s.size)) := by
  intro d
  induction d with
  | zero =>
   intro j i acc hj hi ha hx
   have g1 : ¬ (j : Int) < (s.size : Int) := by omega
   have g2 : (0 : Int) ≤ (i : Int) := by omega
   have g3 : (i : Int) ≤ (s.size : Int) := by omega
   have g4 : acc.length < 8796093022208 := by omega
   have hn : Lib.indexB (s.extract i s.size) (⟨#[c]⟩ : ByteArray) = -1 := by
    refine idx_none _ _ fun k => ?_
    rw [ext_at]
    by_cases hk : i + k < j
    ·exact hx _ (by omega) hk
    ·rw [List.getElem?_eq_none (by rw [Array.length_toList]; show s.size ≤ i + k; omega)]; exact fun h => by cases h
   have hp : pieces c (s.extract i s.size) = [s.extract i s.size] := by
    unfold pieces; exact Lib.splitB_miss _ _ _ _ hn
   rw [hp]
   refine Ev.succ ?_
   simp only [spec_l2Cut.l0, g1, g2, g3, g4, if_true, if_false, Int.toNat_natCast]; exact Ev.now _
  | succ d ih =>
   intro j i acc hj hi ha hx
   have g1 : (j : Int) < (s.size : Int) := by omega
   have g0 : (0 : Int) ≤ (j : Int) := by omega
   have e0 : wrap64 ((j : Int) + 1) = ((j + 1 : Nat) : Int) := wrap_up (i := j) (n := 9223372036854775807) (by omega) (by omega)
   by_cases cc : bt s (j : Int) = (c.toNat : Int)
   ·have hc := (bt_byte s j c (by omega)).mp cc
    have g2 : (0 : Int) ≤ (i : Int) := by omega
    have g3 : (i : Int) ≤ (j : Int) := by omega
    have g3' : (j : Int) ≤ (s.size : Int) := by omega
    have g4 : acc.length < 8796093022208 := by omega
    have hr := ih (j + 1) (j + 1) (acc ++ [s.extract i j]) (by omega) (Nat.le_refl _) (by simp; omega) (fun m h1 h2 => absurd h2 (by omega))
    have hix : Lib.indexB (s.extract i s.size) (⟨#[c]⟩ : ByteArray) = ((j - i : Nat) : Int) := by
     refine idx_at _ _ _ ?_ fun k hk => ?_
     ·rw [ext_at, show i + (j - i) = j by omega]; exact hc
     ·rw [ext_at]; exact hx _ (by omega) (by omega)
    have ex1 : (s.extract i s.size).extract 0 (j - i) = s.extract i j := by
     rw [ByteArray.extract_extract]
     congr 1; omega
    have ex2 : (s.extract i s.size).extract (j - i + 1) (s.extract i s.size).size = s.extract (j + 1) s.size := by
     rw [ByteArray.extract_extract, ByteArray.size_extract]
     congr 1 <;> omega
    have hp : pieces c (s.extract i s.size) = s.extract i j :: pieces c (s.extract (j + 1) s.size) := by
     unfold pieces
     rw [Lib.countB_hit (s.extract i s.size) (⟨#[c]⟩ : ByteArray) (j - i) (Nat.le_refl 1) hix, Nat.add_comm 1, Lib.splitB_hit _ _ _ _ (j - i) hix]
     rw [Nat.add_zero, ex1]
     show _ :: Lib.splitB _ 0 (Lib.countB ((s.extract i s.size).extract (j - i + 1) (s.extract i s.size).size) _) ((s.extract i s.size).extract (j - i + 1) (s.extract i s.size).size) = _
     rw [ex2]
    rw [hp]
    refine Ev.succ ?_
    simp only [spec_l2Cut.l0, g1, g0, cc, g2, g3, g3', g4, if_true, e0, Int.toNat_natCast]
    rw [List.append_assoc] at hr; exact hr
   ·have hr := ih (j + 1) i acc (by omega) (by omega) (by omega) (fun m h1 h2 => by
     rcases Nat.lt_or_ge m j with h | h
     ·exact hx m h1 h
     ·obtain rfl : m = j := by omega
      exact fun hh => cc ((bt_byte s m c (by omega)).mpr hh))
    refine Ev.succ ?_
    simp only [spec_l2Cut.l0, g1, g0, cc, if_true, if_false, e0]; exact hr
 have h := go s.size 0 0 [] (by omega) (Nat.le_refl _) (by simp) (fun m h1 h2 => absurd h2 (by omega))
 have e : s.extract 0 s.size = s := ByteArray.extract_zero_size
 rw [e] at h
 exact h
theorem occ_no (s : List UInt8) (c : UInt8) (tl : List UInt8) (j : Nat) (h : s[j]? ≠ some c) : Lib.occAt s (c :: tl) j = false := by
 unfold Lib.occAt
 cases hd : s.drop j with
 | nil => rfl
 | cons b t =>
  have hb : s[j]? = some b := by
   have := congrArg (fun l => l[0]?) hd
   simpa using this
  have hbc : (c == b) = false := beq_eq_false_iff_ne.mpr (fun e => h (by rw [hb, e]))
  simp [List.isPrefixOf, hbc]
theorem idxS_at (s sep : ByteArray) (c : UInt8) (tl t u : List UInt8) (hsep : sep.data.toList = c :: tl) (hs : s.data.toList = t ++ sep.data.toList ++ u) (h : c ∉ t) : Lib.indexB s sep = (t.length : Int) := by
 show Lib.index s.data.toList sep.data.toList = _
 refine Lib.index_first (by rw [hs]; simp only [List.length_append]; omega) ?_ fun j hj => ?_
 ·unfold Lib.occAt
  rw [hs, List.append_assoc, List.drop_left]
  exact List.isPrefixOf_iff_prefix.mpr (List.prefix_append _ _)
 ·rw [hsep]
  refine occ_no _ _ _ _ ?_
  rw [hs, List.append_assoc, List.getElem?_append_left hj]
  exact fun hk => h (List.mem_of_getElem? hk)
theorem idxS_none (s sep : ByteArray) (c : UInt8) (tl : List UInt8) (hsep : sep.data.toList = c :: tl) (h : c ∉ s.data.toList) : Lib.indexB s sep = -1 := by
 show Lib.index s.data.toList sep.data.toList = _
 refine Lib.index_none fun j _ => ?_
 rw [hsep]; exact occ_no _ _ _ _ (fun hk => h (List.mem_of_getElem? hk))
theorem ext_mid (s : ByteArray) (a m b : List UInt8) (hs : s.data.toList = a ++ m ++ b) : s.extract 0 a.length = ⟨a.toArray⟩ ∧ s.extract (a.length + m.length) s.size = ⟨b.toArray⟩ := by
 have hz : s.size = a.length + m.length + b.length := by rw [← len_data, hs]; simp only [List.length_append]
 constructor
 ·apply of_data
  rw [ByteArray.data_extract, Array.toList_extract, List.extract_eq_take_drop, hs, List.drop_zero, Nat.sub_zero, List.append_assoc, List.take_left']
  rfl
 ·apply of_data
  rw [ByteArray.data_extract, Array.toList_extract, List.extract_eq_take_drop, hs, List.drop_left' (by simp only [List.length_append]), List.take_of_length_le (by omega)]
def piecesS (sep t : ByteArray) : List ByteArray := Lib.splitB sep 0 (Lib.countB t sep) t
theorem piecesS_one (sep t : ByteArray) (c : UInt8) (tl : List UInt8) (hsep : sep.data.toList = c :: tl) (h : c ∉ t.data.toList) : piecesS sep t = [t] := by
 unfold piecesS; exact Lib.splitB_miss _ _ _ _ (idxS_none t sep c tl hsep h)
theorem piecesS_cat (sep t u s : ByteArray) (c : UInt8) (tl : List UInt8) (hsep : sep.data.toList = c :: tl) (hs : s.data.toList = t.data.toList ++ sep.data.toList ++ u.data.toList) (h : c ∉ t.data.toList) : piecesS sep s = t :: piecesS sep u := by
 have hix := idxS_at s sep c tl _ _ hsep hs h
 obtain ⟨e1, e2⟩ := ext_mid s _ _ _ hs
 have h1 : 1 ≤ sep.size := by rw [← len_data, hsep]; simp
 rw [len_data] at hix
 have e1' : s.extract 0 t.size = t := by rw [← len_data t, e1]
 have e2' : s.extract (t.size + sep.size) s.size = u := by rw [← len_data t, ← len_data sep, e2]
 unfold piecesS
 rw [Lib.countB_hit s sep t.size h1 hix, Nat.add_comm 1, Lib.splitB_hit _ _ _ _ t.size hix, Nat.add_zero, e1', e2']
theorem piecesS_join (sep : ByteArray) (c : UInt8) (tl : List UInt8) (hsep : sep.data.toList = c :: tl) : ∀ (xs : List ByteArray) (s : ByteArray), xs ≠ [] → (∀ x ∈ xs, c ∉ x.data.toList) → s.data.toList = Lib.join (xs.map (·.data.toList)) sep.data.toList → piecesS sep s = xs
 | [], _, h, _, _ => absurd rfl h
 | [x], s, _, hx, hs => by
  have e : s = x := eq_data (by rw [hs]; exact Lib.join_one _ _)
  rw [e]; exact piecesS_one sep x c tl hsep (hx x (List.mem_singleton.mpr rfl))
 | x :: y :: r, s, _, hx, hs => by
  have e : Lib.join ((x :: y :: r).map (·.data.toList)) sep.data.toList = x.data.toList ++ sep.data.toList ++ Lib.join ((y :: r).map (·.data.toList)) sep.data.toList := by
   simp [Lib.join, List.intercalate]
  rw [piecesS_cat sep x (⟨(Lib.join ((y :: r).map (·.data.toList)) sep.data.toList).toArray⟩ : ByteArray) s c tl hsep (by rw [hs, e]) (hx x (List.mem_cons_self ..)),
   piecesS_join sep c tl hsep (y :: r) _ (by simp) (fun z hz => hx z (List.mem_cons_of_mem _ hz)) rfl]
theorem join_flat (sep : List UInt8) : ∀ (l : List (List UInt8)) (x : List UInt8), Lib.join (x :: l) sep = x ++ (l.map (sep ++ ·)).flatten
 | [], x => by simp [Lib.join_one]
 | y :: l, x => by
  have : Lib.join (x :: y :: l) sep = x ++ sep ++ Lib.join (y :: l) sep := by simp [Lib.join, List.intercalate]
  rw [this, join_flat sep l y]; simp
theorem join_no (c : UInt8) (sep : List UInt8) (hs : c ∉ sep) : ∀ xs : List (List UInt8), (∀ x ∈ xs, c ∉ x) → c ∉ Lib.join xs sep
 | [], _ => by simp [Lib.join, List.intercalate]
 | x :: l, h => by
  rw [join_flat]
  intro hm
  rcases List.mem_append.mp hm with hm | hm
  ·exact h x (List.mem_cons_self ..) hm
  ·obtain ⟨y, hy, hb⟩ := List.mem_flatten.mp hm
   obtain ⟨z, hz, rfl⟩ := List.mem_map.mp hy
   rcases List.mem_append.mp hb with hb | hb
   ·exact hs hb
   ·exact h z (List.mem_cons_of_mem _ hz) hb
theorem cut_at (s a b : ByteArray) (c : UInt8) (hs : s.data.toList = a.data.toList ++ [c] ++ b.data.toList) (h : c ∉ a.data.toList) (hz : s.size < 4294967281) : strings_Cut.f s (⟨#[c]⟩ : ByteArray) = some (a, b, true) := by
 have hix := idxS_at s (⟨#[c]⟩ : ByteArray) c [] _ _ rfl hs h
 rw [len_data] at hix
 obtain ⟨e1, e2⟩ := ext_mid s _ _ _ hs
 obtain ⟨c1, c2, c3⟩ := Lib.cutB_hit s (⟨#[c]⟩ : ByteArray) a.size hix
 have e1' : s.extract 0 a.size = a := by rw [← len_data a, e1]
 have e2' : s.extract (a.size + (⟨#[c]⟩ : ByteArray).size) s.size = b := by
  rw [← len_data a]; exact e2.trans (of_data b _ rfl).symm
 unfold strings_Cut.f
 rw [if_pos hz, c1, c2, c3, e1', e2']
theorem scut_total (s sep : ByteArray) (hz : s.size ≤ 1048576) : ∃ (a b : ByteArray) (t : Bool), strings_Cut.f s sep = some (a, b, t) ∧ a.size ≤ s.size ∧ b.size ≤ s.size := by
 rcases Lib.indexB_cases s sep with h | ⟨i, h, hi⟩
 ·obtain ⟨c1, c2, c3⟩ := Lib.cutB_miss s sep h
  refine ⟨s, ByteArray.empty, false, ?_, Nat.le_refl _, Nat.zero_le _⟩
  unfold strings_Cut.f
  rw [if_pos (by omega), c1, c2, c3]
 ·obtain ⟨c1, c2, c3⟩ := Lib.cutB_hit s sep i h
  refine ⟨s.extract 0 i, s.extract (i + sep.size) s.size, true, ?_, by simp only [ByteArray.size_extract]; omega, by simp only [ByteArray.size_extract]; omega⟩
  unfold strings_Cut.f
  rw [if_pos (by omega), c1, c2, c3]
theorem ssplit_eq (s sep : ByteArray) (hz : s.size ≤ 1048576) (h1 : 1 ≤ sep.size) : strings_Split.f s sep = some (piecesS sep s) := by
 unfold strings_Split.f
 rw [if_pos (by omega), if_pos h1]; rfl
theorem bytes_eq {s t : ByteArray} (h : t.toList = s.toList) : t = s := by
 rw [ByteArray.toList_eq, ByteArray.toList_eq] at h
 exact ByteArray.ext (Array.toList_inj.mp h)
theorem ne_size {s : ByteArray} (h : ¬ s.toList = ([] : List UInt8)) : 1 ≤ s.size := by
 rcases Nat.eq_zero_or_pos s.size with h0 | h0
 ·refine absurd ?_ h
  rw [ByteArray.toList_eq]
  exact List.eq_nil_of_length_eq_zero (by rw [len_data]; exact h0)
 ·exact h0
theorem size_ne {s : ByteArray} (h : 1 ≤ s.size) : ¬ s.toList = ([] : List UInt8) := by
 intro hh
 rw [ByteArray.toList_eq] at hh
 have := len_data s
 rw [hh] at this
 simp at this; omega
theorem fint_total (v : Int) (h0 : -9223372036854775808 ≤ v) (h1 : v ≤ 9223372036854775807) : ∃ t : ByteArray, Ev (fun k => spec_FormatInt.f k v) t := by
 have zr : ∀ (acc : ByteArray) (ng : Bool), acc.size ≤ 100 → ∃ t : ByteArray, Ev (fun k => spec_FormatInt.l0 k 0 acc ng) t := by
  intro acc ng ha
  have ha' : 1 + acc.size ≤ 9223372036854775807 := by omega
  cases ng
  ·refine ⟨acc, Ev.succ ?_⟩
   simp only [spec_FormatInt.l0, if_true, Bool.false_eq_true, if_false]; exact Ev.now _
  ·refine ⟨(⟨#[45]⟩ : ByteArray) ++ acc, Ev.succ ?_⟩
   simp only [spec_FormatInt.l0, if_true, ha']; exact Ev.now _
 have go : ∀ (n : Nat) (v : Int) (acc : ByteArray) (ng : Bool), -9223372036854775808 ≤ v → v ≤ 9223372036854775807 → v.natAbs < 10 ^ n → acc.size + n ≤ 100 → ∃ t : ByteArray, Ev (fun k => spec_FormatInt.l0 k v acc ng) t := by
  intro n
  induction n with
  | zero =>
   intro v acc ng _ _ hv ha
   have hv0 : v = 0 := by rw [Nat.pow_zero] at hv; omega
   rw [hv0]; exact zr acc ng (by omega)
  | succ n ih =>
   intro v acc ng r0 r1 hv ha
   by_cases hv0 : v = 0
   ·rw [hv0]; exact zr acc ng (by omega)
   have na : (Int.tdiv v 10).natAbs = v.natAbs / 10 := Int.natAbs_tdiv v 10
   have hq : (Int.tdiv v 10).natAbs < 10 ^ n := by
    rw [na]
    rw [Nat.pow_succ] at hv
    exact Nat.div_lt_of_lt_mul (by omega)
   have q0 : -9223372036854775808 ≤ Int.tdiv v 10 := by omega
   have q1 : Int.tdiv v 10 ≤ 9223372036854775807 := by omega
   have ew : wrap64 (Int.tdiv v 10) = Int.tdiv v 10 := wrap_in q0 q1
   have step : ∀ x : Int, ∃ t : ByteArray, Ev (fun k => spec_FormatInt.l0 k (Int.tdiv v 10) (strOfNums [x] ++ acc) ng) t := fun x => ih _ _ _ q0 q1 hq (by rw [ByteArray.size_append, strOfNums_size]; simp only [List.length_singleton]; omega)
   have hsz : ∀ x : Int, (strOfNums [x]).size + acc.size ≤ 9223372036854775807 := by intro x; rw [strOfNums_size]; simp only [List.length_singleton]; omega
   by_cases c : Int.tmod v 10 < 0
   ·obtain ⟨t, ht⟩ := step ((wrap64 (48 + (wrap64 (-(Int.tmod v 10))))) % 256)
    refine ⟨t, Ev.succ ?_⟩
    simp only [spec_FormatInt.l0, hv0, if_false, c, if_true, Option.bind_some, hsz, ew]; exact ht
   ·obtain ⟨t, ht⟩ := step ((wrap64 (48 + (Int.tmod v 10))) % 256)
    refine ⟨t, Ev.succ ?_⟩
    simp only [spec_FormatInt.l0, hv0, if_false, c, if_true, Option.bind_some, hsz, ew]; exact ht
 unfold spec_FormatInt.f
 by_cases hv0 : v = 0
 ·exact ⟨⟨#[48]⟩, by simp only [hv0, if_true]; exact Ev.now _⟩
 ·simp only [hv0, if_false]
  exact go 30 v _ _ h0 h1 (Nat.lt_of_le_of_lt (show v.natAbs ≤ 9223372036854775808 by omega) (by decide)) (by decide)
theorem wrap_range (v : Int) : -9223372036854775808 ≤ wrap64 v ∧ wrap64 v ≤ 9223372036854775807 := by unfold wrap64; omega
theorem sint_j2 (s : ByteArray) (x4 x5 : Int) (b : Bool) (h0 : -9223372036854775808 ≤ x4) (h1 : x4 ≤ 9223372036854775807) : ∃ r : Int × Bool, Ev (fun k => spec_ParseInt.j2 k s x4 x5 b) r := by
 obtain ⟨t1, e1⟩ := fint_total x4 h0 h1
 obtain ⟨t2, e2⟩ := fint_total (wrap64 (-x4)) (wrap_range _).1 (wrap_range _).2
 by_cases c5 : x5 > 9
 ·refine ⟨(0, false), Ev.succ ?_⟩
  cases b <;> simp only [spec_ParseInt.j2, c5, if_true, Bool.false_eq_true, if_false] <;> exact Ev.now _
 by_cases cs : (s.size : Int) > 10
 ·refine ⟨(0, false), Ev.succ ?_⟩
  cases b <;> simp only [spec_ParseInt.j2, c5, cs, if_true, Bool.false_eq_true, if_false] <;> exact Ev.now _
 cases b
 ·by_cases ct : t1.toList = s.toList
  ·refine ⟨(x4, true), Ev.succ ?_⟩
   simp only [spec_ParseInt.j2, c5, cs, Bool.false_eq_true, if_false]
   exact Ev.bind e1 (by simp only [ct, if_true]; exact Ev.now _)
  ·refine ⟨(0, false), Ev.succ ?_⟩
   simp only [spec_ParseInt.j2, c5, cs, Bool.false_eq_true, if_false]
   exact Ev.bind e1 (by simp only [ct, if_false]; exact Ev.now _)
 ·by_cases ct : t2.toList = s.toList
  ·refine ⟨(wrap64 (-x4), true), Ev.succ ?_⟩
   simp only [spec_ParseInt.j2, c5, cs, if_true, if_false]
   exact Ev.bind e2 (by simp only [ct, if_true]; exact Ev.now _)
  ·refine ⟨(0, false), Ev.succ ?_⟩
   simp only [spec_ParseInt.j2, c5, cs, if_true, if_false]
   exact Ev.bind e2 (by simp only [ct, if_false]; exact Ev.now _)
theorem sint_total (s : ByteArray) : ∃ r : Int × Bool, Ev (fun k => spec_ParseInt.f k s) r := by
 have fin : ∀ x4 x5 x6 : Int, -9223372036854775808 ≤ x4 → x4 ≤ 9223372036854775807 → ∃ r : Int × Bool, Ev (fun k => spec_ParseInt.j1 k s x4 x5 x6 false) r := by
  intro x4 x5 x6 h0 h1
  by_cases c : (0 : Int) < (s.size : Int)
  ·obtain ⟨r, hr⟩ := sint_j2 s x4 x5 (bt s 0 == 45) h0 h1
   refine ⟨r, Ev.succ ?_⟩
   simp only [spec_ParseInt.j1, Bool.false_eq_true, if_false, gt_iff_lt, c, if_true]; exact hr
  ·obtain ⟨r, hr⟩ := sint_j2 s x4 x5 false h0 h1
   refine ⟨r, Ev.succ ?_⟩
   simp only [spec_ParseInt.j1, Bool.false_eq_true, if_false, gt_iff_lt, c]; exact hr
 have go : ∀ (d n : Nat) (x4 x5 : Int), n + d = 11 → -9223372036854775808 ≤ x4 → x4 ≤ 9223372036854775807 → ∃ r : Int × Bool, Ev (fun k => spec_ParseInt.l0 k s x4 x5 (n : Int)) r := by
  intro d
  induction d with
  | zero =>
   intro n x4 x5 hn h0 h1
   obtain ⟨r, hr⟩ := fin x4 x5 (n : Int) h0 h1
   have h11 : ¬ (n : Int) < 11 := by omega
   refine ⟨r, Ev.succ ?_⟩
   by_cases c : (n : Int) < (s.size : Int)
   ·simp only [spec_ParseInt.l0, c, if_true, h11, decide_false]; exact hr
   ·simp only [spec_ParseInt.l0, c, if_false]; exact hr
  | succ d ih =>
   intro n x4 x5 hn h0 h1
   by_cases c : (n : Int) < (s.size : Int)
   ·have h11 : (n : Int) < 11 := by omega
    have e0 : wrap64 ((n : Int) + 1) = ((n + 1 : Nat) : Int) := wrap_up (i := n) (n := 99) (by omega) (by omega)
    have g0 : (0 : Int) ≤ (n : Int) := by omega
    obtain ⟨r', hr'⟩ := ih (n + 1) x4 x5 (by omega) h0 h1
    by_cases d1 : bt s (n : Int) ≥ 48
    ·by_cases d2 : bt s (n : Int) ≤ 57
     ·obtain ⟨r, hr⟩ := ih (n + 1) (wrap64 ((wrap64 (x4 * 10)) + (((bt s (n : Int)) - 48) % 256))) (wrap64 (x5 + 1)) (by omega) (wrap_range _).1 (wrap_range _).2
      refine ⟨r, Ev.succ ?_⟩
      simp only [spec_ParseInt.l0, c, if_true, h11, decide_true]
      refine Ev.succ ?_
      simp only [spec_ParseInt.j1, g0, c, d1, d2, if_true, e0]; exact hr
     ·refine ⟨r', Ev.succ ?_⟩
      simp only [spec_ParseInt.l0, c, if_true, h11, decide_true]
      refine Ev.succ ?_
      simp only [spec_ParseInt.j1, g0, c, d1, d2, if_true, if_false, e0]; exact hr'
    ·refine ⟨r', Ev.succ ?_⟩
     simp only [spec_ParseInt.l0, c, if_true, h11, decide_true]
     refine Ev.succ ?_
     simp only [spec_ParseInt.j1, g0, c, d1, if_true, if_false, e0]; exact hr'
   ·obtain ⟨r, hr⟩ := fin x4 x5 (n : Int) h0 h1
    refine ⟨r, Ev.succ ?_⟩
    simp only [spec_ParseInt.l0, c, if_false]; exact hr
 exact go 11 0 0 0 rfl (by decide) (by decide)
theorem snum_total (s : ByteArray) : ∃ r : Int, Ev (fun k => spec_l3Number.f k s) r := by
 unfold spec_l3Number.f
 by_cases c : s.toList = ([45] : List UInt8)
 ·exact ⟨-1, by simp only [c, if_true]; exact Ev.now _⟩
 obtain ⟨⟨v, b⟩, hr⟩ := sint_total s
 simp only [c, if_false]
 cases b
 ·exact ⟨-2, Ev.bind hr (by simp only [Bool.false_eq_true, if_false]; exact Ev.now _)⟩
 ·by_cases cv : v < 0
  ·exact ⟨-2, Ev.bind hr (by simp only [cv, if_true]; exact Ev.now _)⟩
  ·exact ⟨v, Ev.bind hr (by simp only [cv, if_true, if_false]; exact Ev.now _)⟩
theorem split_le (sep : ByteArray) : ∀ (k : Nat) (s : ByteArray), ∀ x ∈ Lib.splitB sep 0 k s, x.size ≤ s.size := by
 intro k
 induction k with
 | zero => intro s x hx; rw [Lib.splitB_zero] at hx; rw [List.mem_singleton.mp hx]; exact Nat.le_refl _
 | succ k ih =>
  intro s x hx
  unfold Lib.splitB at hx
  split at hx
  ·rw [List.mem_singleton.mp hx]; exact Nat.le_refl _
  ·rcases List.mem_cons.mp hx with rfl | hx
   ·simp only [ByteArray.size_extract]; omega
   ·have := ih _ x hx
    simp only [ByteArray.size_extract] at this; omega
theorem pint_total (s : ByteArray) (h : s.size ≤ 281474976710656) : ∃ r, impl_ParseInt.f s = some r := by
 unfold impl_ParseInt.f
 rw [if_pos h]
 split
 ·split
  ·exact ⟨_, rfl⟩
  ·exact ⟨_, rfl⟩
 ·exact ⟨_, rfl⟩
theorem pval_total (s : ByteArray) (h : s.size ≤ 281474976710656) : ∃ r, impl_parseValue.f s = some r := by
 obtain ⟨r, hr⟩ := pint_total s h
 unfold impl_parseValue.f
 rw [hr]
 simp only [Option.bind_some, impl_in.f]
 repeat' split
 all_goals exact ⟨_, rfl⟩
def okN (i : Nat) : Bool := decide (impl_ParseInt.f (tx i) = some ((i : Int), true)) && (decide (spec_ParseInt.f 40 (tx i) = some ((i : Int), true)) && (decide (spec_l3Number.f 60 (tx i) = some (i : Int)) && (tx i).data.toList.all (fun b => decide (45 ≤ b.toNat) && decide (b.toNat ≤ 57))))
def okV (i : Nat) : Bool := decide (impl_parseValue.f (vx ((i : Int) - 1)) = some ((i : Int) - 1, true)) && (decide (spec_l3Number.f 60 (vx ((i : Int) - 1)) = some ((i : Int) - 1)) && (vx ((i : Int) - 1)).data.toList.all (fun b => decide (45 ≤ b.toNat) && decide (b.toNat ≤ 57)))
def okKey (c : UInt8) (i : Nat) : Bool := decide (((⟨#[c]⟩ : ByteArray) ++ tx i).size = 2) && (decide (bt ((⟨#[c]⟩ : ByteArray) ++ tx i) 0 = (c.toNat : Int)) && decide (wrap64 ((wrap64 (bt ((⟨#[c]⟩ : ByteArray) ++ tx i) 1)) - 48) = (i : Int)))
theorem okN_all : ∀ i : Fin 1000, okN i.val = true := by decide +kernel
theorem okV_all : ∀ i : Fin 101, okV i.val = true := by decide +kernel
theorem okKey_all : ∀ i : Fin 6, okKey 114 i.val = true ∧ okKey 119 i.val = true := by decide +kernel
theorem digits {l : List UInt8} (h : l.all (fun b => decide (45 ≤ b.toNat) && decide (b.toNat ≤ 57)) = true) (c : UInt8) (hc : c.toNat < 45 ∨ 57 < c.toNat) : c ∉ l := by
 intro hm
 have := List.all_eq_true.mp h c hm
 rw [Bool.and_eq_true] at this
 have h1 := of_decide_eq_true this.1
 have h2 := of_decide_eq_true this.2
 omega
theorem num_ok (n : Int) (h0 : 0 ≤ n) (h1 : n ≤ 999) : impl_ParseInt.f (tx n) = some (n, true) ∧ Ev (fun k => spec_ParseInt.f k (tx n)) (n, true) ∧ Ev (fun k => spec_l3Number.f k (tx n)) n ∧ ∀ c : UInt8, c.toNat < 45 ∨ 57 < c.toNat → c ∉ (tx n).data.toList := by
 obtain ⟨m, rfl⟩ := Int.eq_ofNat_of_zero_le h0
 have h := okN_all ⟨m, by omega⟩
 simp only [okN, Bool.and_eq_true, decide_eq_true_eq] at h
 obtain ⟨a, b, c, d⟩ := h
 exact ⟨a, Ev.of (spec_ParseInt.mono _) b, Ev.of (spec_l3Number.mono _) c, digits (by simpa using d)⟩
theorem val_ok (n : Int) (h0 : -1 ≤ n) (h1 : n ≤ 99) : impl_parseValue.f (vx n) = some (n, true) ∧ Ev (fun k => spec_l3Number.f k (vx n)) n ∧ ∀ c : UInt8, c.toNat < 45 ∨ 57 < c.toNat → c ∉ (vx n).data.toList := by
 obtain ⟨m, rfl⟩ : ∃ m : Nat, n = (m : Int) - 1 := ⟨(n + 1).toNat, by omega⟩
 have h := okV_all ⟨m, by omega⟩
 simp only [okV, Bool.and_eq_true, decide_eq_true_eq] at h
 obtain ⟨a, c, d⟩ := h
 exact ⟨a, Ev.of (spec_l3Number.mono _) c, digits (by simpa using d)⟩
theorem key_ok (n : Int) (h0 : 0 ≤ n) (h1 : n ≤ 5) (c : UInt8) (hc : c = 114 ∨ c = 119) : ((⟨#[c]⟩ : ByteArray) ++ tx n).size = 2 ∧ bt ((⟨#[c]⟩ : ByteArray) ++ tx n) 0 = (c.toNat : Int) ∧ wrap64 ((wrap64 (bt ((⟨#[c]⟩ : ByteArray) ++ tx n) 1)) - 48) = n := by
 obtain ⟨m, rfl⟩ := Int.eq_ofNat_of_zero_le h0
 obtain ⟨h1, h2⟩ := okKey_all ⟨m, by omega⟩
 rcases hc with rfl | rfl
 ·simp only [okKey, Bool.and_eq_true, decide_eq_true_eq] at h1; exact h1
 ·simp only [okKey, Bool.and_eq_true, decide_eq_true_eq] at h2; exact h2
def wd (c : UInt8) (a b : ByteArray) : ByteArray := (((⟨#[c]⟩ : ByteArray) ++ a) ++ (⟨#[58]⟩ : ByteArray)) ++ b
def wR (m : S48) : ByteArray := wd 114 (tx m.f0) (tx m.f1)
def wW (w : S50) : ByteArray := wd 119 (tx w.f0) (vx w.f1)
def hdE (e : S33) : ByteArray := (tx e.f0 ++ (⟨#[64]⟩ : ByteArray)) ++ tx e.f1
def wordsE (e : S33) : List ByteArray := e.f2.map wR ++ e.f3.map wW
def enB (e : S33) : ByteArray := ⟨(enL e).toArray⟩
theorem wd_data (c : UInt8) (a b : ByteArray) : (wd c a b).data.toList = [c] ++ ((a.data.toList ++ [58]) ++ b.data.toList) := by
 unfold wd
 simp [cat_data]
theorem en_join (e : S33) : (enB e).data.toList = Lib.join ((hdE e :: wordsE e).map (·.data.toList)) [32] := by
 have h1 : ∀ l : List S48, ((l.map wR).map (·.data.toList)).map ([32] ++ ·) = l.map rdT := by
  intro l
  rw [List.map_map, List.map_map]
  refine List.map_congr_left fun m _ => ?_
  show [32] ++ (wd 114 (tx m.f0) (tx m.f1)).data.toList = rdT m
  rw [wd_data]; unfold rdT; simp
 have h2 : ∀ l : List S50, ((l.map wW).map (·.data.toList)).map ([32] ++ ·) = l.map wrT := by
  intro l
  rw [List.map_map, List.map_map]
  refine List.map_congr_left fun m _ => ?_
  show [32] ++ (wd 119 (tx m.f0) (vx m.f1)).data.toList = wrT m
  rw [wd_data]; unfold wrT; simp
 show enL e = _
 rw [List.map_cons, join_flat]
 unfold wordsE
 rw [List.map_append, List.map_append, h1, h2, List.flatten_append]
 unfold enL acT hdE
 simp only [cat_data]
theorem wd_no (x c : UInt8) (a b : ByteArray) (h0 : x ≠ c) (h1 : x ≠ 58) (ha : x ∉ a.data.toList) (hb : x ∉ b.data.toList) : x ∉ (wd c a b).data.toList := by
 rw [wd_data]
 simp only [List.mem_append, List.mem_singleton, not_or]
 exact ⟨h0, ⟨ha, h1⟩, hb⟩
theorem words_no (e : S33) (ho : okE e) (x : UInt8) (hx : x.toNat < 45 ∨ 57 < x.toNat) (h1 : x ≠ 114) (h2 : x ≠ 119) (h3 : x ≠ 58) (h4 : x ≠ 64) : ∀ y ∈ hdE e :: wordsE e, x ∉ y.data.toList := by
 obtain ⟨hid, hst, _, okr, okw, _⟩ := ho
 intro y hy
 rcases List.mem_cons.mp hy with rfl | hy
 ·unfold hdE
  simp only [cat_data, List.mem_append, not_or]
  exact ⟨⟨(num_ok e.f0 (by omega) (by omega)).2.2.2 x hx, fun h => h4 (List.mem_singleton.mp h)⟩, (num_ok e.f1 (by omega) (by omega)).2.2.2 x hx⟩
 ·unfold wordsE at hy
  rcases List.mem_append.mp hy with hy | hy
  ·obtain ⟨m, hm, rfl⟩ := List.mem_map.mp hy
   have hm := okr m hm
   unfold okR at hm
   exact wd_no x 114 _ _ h1 h3 ((num_ok m.f0 (by omega) (by omega)).2.2.2 x hx) ((num_ok m.f1 (by omega) (by omega)).2.2.2 x hx)
  ·obtain ⟨m, hm, rfl⟩ := List.mem_map.mp hy
   have hm := okw m hm
   unfold okW at hm
   exact wd_no x 119 _ _ h2 h3 ((num_ok m.f0 (by omega) (by omega)).2.2.2 x hx) ((val_ok m.f1 (by omega) (by omega)).2.2 x hx)
theorem en_pieces (e : S33) (ho : okE e) : piecesS (⟨#[32]⟩ : ByteArray) (enB e) = hdE e :: wordsE e :=
 piecesS_join (⟨#[32]⟩ : ByteArray) 32 [] rfl _ _ (by simp) (words_no e ho 32 (by decide) (by decide) (by decide) (by decide) (by decide)) (en_join e)
theorem en_no59 (e : S33) (ho : okE e) : (59 : UInt8) ∉ (enB e).data.toList := by
 rw [en_join]
 refine join_no 59 [32] (by decide) _ fun x hx => ?_
 obtain ⟨y, hy, rfl⟩ := List.mem_map.mp hx
 exact words_no e ho 59 (by decide) (by decide) (by decide) (by decide) (by decide) y hy
theorem wd_facts (c : UInt8) (a b : ByteArray) (ha : a.size ≤ 20) (hb : b.size ≤ 20) (h58 : (58 : UInt8) ∉ a.data.toList) : ¬ (wd c a b).toList = ([] : List UInt8) ∧ 1 ≤ ((wd c a b).size : Int) ∧ 0 < ((wd c a b).size : Int) ∧ strings_Cut.f ((wd c a b).extract 1 (wd c a b).size) (⟨#[58]⟩ : ByteArray) = some (a, b, true) ∧ bt (wd c a b) 0 = (c.toNat : Int) := by
 have hz : (wd c a b).size = 2 + a.size + b.size := by unfold wd; simp only [ByteArray.size_append, s1]; omega
 have hx : (wd c a b).extract 1 (wd c a b).size = ⟨((a.data.toList ++ [58]) ++ b.data.toList).toArray⟩ := (ext_mid (wd c a b) [] [c] _ (wd_data c a b)).2
 refine ⟨size_ne (by omega), by omega, by omega, ?_, ?_⟩
 ·rw [hx]
  refine cut_at _ a b 58 rfl h58 ?_
  show ((a.data.toList ++ [58]) ++ b.data.toList).toArray.size < _
  simp only [List.size_toArray, List.length_append, List.length_singleton, len_data]; omega
 ·exact (bt_byte (wd c a b) 0 c (by omega)).mpr (by rw [wd_data]; rfl)
theorem acc_reads (ms : List S48) (ws : List ByteArray) (hw : ws.length ≤ 1000) (hget : ∀ j (h : j < ms.length), ∃ h' : j < ws.length, ws[j] = wR ms[j]) (hok : ∀ m ∈ ms, okR m) {r : List S48 × List S50} (cont : Ev (fun k => impl_parseAccesses.l0 k ms [] ws (ws.length : Int) (ms.length : Int)) r) : Ev (fun k => impl_parseAccesses.l0 k [] [] ws (ws.length : Int) 0) r := by
 have go : ∀ (d j : Nat), j + d = ms.length → Ev (fun k => impl_parseAccesses.l0 k (ms.take j) [] ws (ws.length : Int) (j : Int)) r := by
  intro d
  induction d with
  | zero =>
   intro j hj
   obtain rfl : j = ms.length := by omega
   rw [List.take_of_length_le (Nat.le_refl _)]; exact cont
  | succ d ih =>
   intro j hj
   have hj' : j < ms.length := by omega
   obtain ⟨h', hw'⟩ := hget j hj'
   have ho := hok _ (List.getElem_mem hj')
   unfold okR at ho
   obtain ⟨p0, _, _, n0⟩ := num_ok ms[j].f0 (by omega) (by omega)
   obtain ⟨p1, _, _, _⟩ := num_ok ms[j].f1 (by omega) (by omega)
   obtain ⟨w1, w2, w3, w4, w5⟩ := wd_facts 114 (tx ms[j].f0) (tx ms[j].f1) (tx_spec _ (by omega) (by omega)).2.2 (tx_spec _ (by omega) (by omega)).2.2 (n0 58 (by decide))
   have w5' : bt (wd 114 (tx ms[j].f0) (tx ms[j].f1)) 0 = 114 := w5
   have e : rdOf ByteArray.empty ws (j : Int) = wd 114 (tx ms[j].f0) (tx ms[j].f1) := by
    have : rdOf ByteArray.empty ws (j : Int) = ws[j] := by simp [rdOf, h']
    rw [this, hw']; rfl
   have h1 : (j : Int) < (ws.length : Int) := by omega
   have q : (ms.take j).length < 8796093022208 := by rw [List.length_take]; omega
   have hn := ih (j + 1) (by omega)
   rw [← List.take_append_getElem hj'] at hn
   refine Ev.succ ?_
   simp only [impl_parseAccesses.l0, h1, Int.natCast_nonneg, if_true, e, w1, if_false, w2, w4, Option.bind_some, p0, w3, w5', p1, q, wrap_up h' (by omega)]
   exact hn
 exact go ms.length 0 (by omega)
theorem acc_writes (rs : List S48) (ms : List S50) (i0 : Nat) (ws : List ByteArray) (hw : ws.length ≤ 1000) (hi0 : i0 + ms.length = ws.length) (hget : ∀ j (h : j < ms.length), ∃ h' : i0 + j < ws.length, ws[i0 + j] = wW ms[j]) (hok : ∀ m ∈ ms, okW m) : Ev (fun k => impl_parseAccesses.l0 k rs [] ws (ws.length : Int) (i0 : Int)) (rs, ms) := by
 have go : ∀ (d j : Nat), j + d = ms.length → Ev (fun k => impl_parseAccesses.l0 k rs (ms.take j) ws (ws.length : Int) ((i0 + j : Nat) : Int)) (rs, ms) := by
  intro d
  induction d with
  | zero =>
   intro j hj
   obtain rfl : j = ms.length := by omega
   have g1 : ¬ ((i0 + ms.length : Nat) : Int) < (ws.length : Int) := by omega
   rw [List.take_of_length_le (Nat.le_refl _)]
   refine Ev.succ ?_
   simp only [impl_parseAccesses.l0, g1, if_false]; exact Ev.now _
  | succ d ih =>
   intro j hj
   have hj' : j < ms.length := by omega
   obtain ⟨h', hw'⟩ := hget j hj'
   have ho := hok _ (List.getElem_mem hj')
   unfold okW at ho
   obtain ⟨p0, _, _, n0⟩ := num_ok ms[j].f0 (by omega) (by omega)
   obtain ⟨p1, _, _⟩ := val_ok ms[j].f1 (by omega) (by omega)
   obtain ⟨w1, w2, w3, w4, w5⟩ := wd_facts 119 (tx ms[j].f0) (vx ms[j].f1) (tx_spec _ (by omega) (by omega)).2.2 (vx_spec _ (by omega) (by omega)).2.2 (n0 58 (by decide))
   have w5' : ¬ bt (wd 119 (tx ms[j].f0) (vx ms[j].f1)) 0 = 114 := by rw [w5]; decide
   have e : rdOf ByteArray.empty ws ((i0 + j : Nat) : Int) = wd 119 (tx ms[j].f0) (vx ms[j].f1) := by
    have : rdOf ByteArray.empty ws ((i0 + j : Nat) : Int) = ws[i0 + j] := by simp [rdOf, h', -Int.natCast_add]
    rw [this, hw']; rfl
   have h1 : ((i0 + j : Nat) : Int) < (ws.length : Int) := by omega
   have q : (ms.take j).length < 8796093022208 := by rw [List.length_take]; omega
   have hn := ih (j + 1) (by omega)
   rw [← List.take_append_getElem hj'] at hn
   refine Ev.succ ?_
   simp only [impl_parseAccesses.l0, h1, Int.natCast_nonneg, if_true, e, w1, if_false, w2, w4, Option.bind_some, p0, w3, w5', p1, q, wrap_up h' (by omega)]
   exact hn
 exact go ms.length 0 (by omega)
theorem acc_back (e : S33) (ho : okE e) : Ev (fun k => impl_parseAccesses.f k (wordsE e)) (e.f2, e.f3) := by
 obtain ⟨_, _, h60, okr, okw, h6⟩ := ho
 have hl : (wordsE e).length = e.f2.length + e.f3.length := by unfold wordsE; simp
 unfold impl_parseAccesses.f
 refine acc_reads e.f2 (wordsE e) (by omega) (fun j h => ⟨by omega, ?_⟩) okr ?_
 ·unfold wordsE
  rw [List.getElem_append_left (by simpa using h)]; simp
 ·refine acc_writes e.f2 e.f3 e.f2.length (wordsE e) (by omega) hl.symm (fun j h => ⟨by omega, ?_⟩) okw
  unfold wordsE
  rw [List.getElem_append_right (by simp)]; simp
theorem wd_pieces (c : UInt8) (a b : ByteArray) (hc : (58 : UInt8) ≠ c) (ha : (58 : UInt8) ∉ a.data.toList) (hb : (58 : UInt8) ∉ b.data.toList) : pieces 58 (wd c a b) = [(⟨#[c]⟩ : ByteArray) ++ a, b] := by
 refine piecesS_join (⟨#[58]⟩ : ByteArray) 58 [] rfl _ _ (by simp) (fun x hx => ?_) ?_
 ·rcases List.mem_cons.mp hx with rfl | hx
  ·rw [cat_data]
   intro hm
   rcases List.mem_append.mp hm with hm | hm
   ·exact hc (List.mem_singleton.mp hm)
   ·exact ha hm
  ·rw [List.mem_singleton.mp hx]; exact hb
 ·rw [wd_data, List.map_cons, join_flat]
  simp [cat_data]
theorem l18_word (ws : List ByteArray) (i : Nat) (hi : i < ws.length) (h70 : i < 70) (c : UInt8) (hc : c = 114 ∨ c = 119) (key v : Int) (b : ByteArray) (hk : 0 ≤ key ∧ key ≤ 5) (hb : (58 : UInt8) ∉ b.data.toList) (hbz : b.size ≤ 20) (hn : Ev (fun k => spec_l3Number.f k b) v) (hw : ws[i] = wd c (tx key) b) (a0 a1 : Int) (rs : List S48) (vs : List S50) (hr : rs.length ≤ 70) (hv : vs.length ≤ 70) {r : Int × Int × List S48 × List S50}
  (cont : Ev (fun k => spec_l18Read.l0 k ws ((i + 1 : Nat) : Int) a0 a1 (if c = 114 then rs ++ [⟨key, v⟩] else rs) (if c = 114 then vs else vs ++ [⟨key, v⟩])) r) : Ev (fun k => spec_l18Read.l0 k ws (i : Int) a0 a1 rs vs) r := by
 obtain ⟨_, _, _, n0⟩ := num_ok key (by omega) (by omega)
 obtain ⟨k1, k2, k3⟩ := key_ok key hk.1 hk.2 c hc
 have h58 : (58 : UInt8) ≠ c := by rcases hc with rfl | rfl <;> decide
 have hp := wd_pieces c (tx key) b h58 (n0 58 (by decide)) hb
 have hz : (wd c (tx key) b).size ≤ 1048576 := by
  have := (tx_spec key (by omega) (by omega)).2.2
  unfold wd; simp only [ByteArray.size_append, s1]; omega
 have hcut := cut_split (wd c (tx key) b) 58 hz
 rw [hp] at hcut
 have e : rdOf ByteArray.empty ws (i : Int) = wd c (tx key) b := by rw [← hw]; simp [rdOf, hi]
 have h1 : (i : Int) < (ws.length : Int) := by omega
 have h2 : (i : Int) < 70 := by omega
 have e0 : rdOf ByteArray.empty [(⟨#[c]⟩ : ByteArray) ++ tx key, b] 0 = (⟨#[c]⟩ : ByteArray) ++ tx key := rfl
 have e1 : rdOf ByteArray.empty [(⟨#[c]⟩ : ByteArray) ++ tx key, b] 1 = b := rfl
 have el : (([(⟨#[c]⟩ : ByteArray) ++ tx key, b].length : Nat) : Int) = 2 := rfl
 have g2 : (0 : Int) < 2 := by decide
 have g12 : (1 : Int) < 2 := by decide
 have kz : ((((⟨#[c]⟩ : ByteArray) ++ tx key).size : Nat) : Int) = 2 := by rw [k1]; rfl
 have bn : ((2 : Int) != 2) = false := by decide
 have ew : wrap64 ((i : Int) + 1) = ((i + 1 : Nat) : Int) := wrap_up (i := i) (n := 99) (by omega) (by omega)
 refine Ev.succ ?_
 simp only [spec_l18Read.l0, h1, if_true, h2, decide_true]
 refine Ev.succ ?_
 simp only [spec_l18Read.j1, if_true, Int.natCast_nonneg, h1, e]
 refine Ev.bind hcut ?_
 simp only [el, g2, if_true, e0, kz, bn]
 refine Ev.succ ?_
 simp only [spec_l18Read.j2, Bool.false_eq_true, if_false, el, g2, g12, if_true, e0, e1, kz]
 refine Ev.bind hn ?_
 have q1 : rs.length < 8796093022208 := by omega
 have q2 : vs.length < 8796093022208 := by omega
 rcases hc with rfl | rfl
 ·have c1 : bt ((⟨#[114]⟩ : ByteArray) ++ tx key) 0 = 114 := k2
  simp only [c1, if_true, q1, k3, ew]
  simpa only [if_true] using cont
 ·have c1 : ¬ bt ((⟨#[119]⟩ : ByteArray) ++ tx key) 0 = 114 := by rw [k2]; decide
  simp only [c1, if_true, if_false, q2, k3, ew]
  simpa only [show ¬ ((119 : UInt8) = 114) from by decide, if_false] using cont
theorem l18_back (e : S33) (ho : okE e) (hz : (enB e).size ≤ 1048576) : Ev (fun k => spec_l18Read.f k (enB e)) (e.f0, e.f1, e.f2, e.f3) := by
 have hp := en_pieces e ho
 obtain ⟨hid, hst, h60, okr, okw, h6⟩ := ho
 have hl : (wordsE e).length = e.f2.length + e.f3.length := by unfold wordsE; simp
 have hlen : (hdE e :: wordsE e).length = e.f2.length + e.f3.length + 1 := by rw [List.length_cons, hl]
 have hcut := cut_split (enB e) 32 hz
 have hp' : pieces 32 (enB e) = hdE e :: wordsE e := hp
 rw [hp'] at hcut
 obtain ⟨_, p0, _, n0⟩ := num_ok e.f0 (by omega) (by omega)
 obtain ⟨_, p1, _, n1⟩ := num_ok e.f1 (by omega) (by omega)
 have z0 := (tx_spec e.f0 (by omega) (by omega)).2.2
 have z1 := (tx_spec e.f1 (by omega) (by omega)).2.2
 have hh : pieces 64 (hdE e) = [tx e.f0, tx e.f1] := by
  refine piecesS_join (⟨#[64]⟩ : ByteArray) 64 [] rfl _ _ (by simp) (fun x hx => ?_) ?_
  ·rcases List.mem_cons.mp hx with rfl | hx
   ·exact n0 64 (by decide)
   ·rw [List.mem_singleton.mp hx]; exact n1 64 (by decide)
  ·rw [List.map_cons, join_flat]; unfold hdE
   simp [cat_data]
 have hcut2 := cut_split (hdE e) 64 (by unfold hdE; simp only [ByteArray.size_append, s1]; omega)
 rw [hh] at hcut2
 have f0 : (0 : Int) < ((hdE e :: wordsE e).length : Int) := by omega
 have f1 : rdOf ByteArray.empty (hdE e :: wordsE e) 0 = hdE e := rfl
 have f2 : (0 : Int) < (([tx e.f0, tx e.f1].length : Nat) : Int) := by show (0 : Int) < 2; decide
 have f3 : rdOf ByteArray.empty [tx e.f0, tx e.f1] 0 = tx e.f0 := rfl
 have f4 : wrap64 ((([tx e.f0, tx e.f1].length : Nat) : Int) - 1) = 1 := by show wrap64 (2 - 1) = 1; rw [wrap_in (by omega) (by omega)]; rfl
 have f5 : (1 : Int) < (([tx e.f0, tx e.f1].length : Nat) : Int) := by show (1 : Int) < 2; decide
 have f6 : rdOf ByteArray.empty [tx e.f0, tx e.f1] 1 = tx e.f1 := rfl
 have f7 : (0 : Int) ≤ 1 := by decide
 unfold spec_l18Read.f
 refine Ev.bind hcut ?_
 simp only [f0, if_true, f1]
 refine Ev.bind hcut2 ?_
 simp only [f2, if_true, f3]
 refine Ev.bind p0 ?_
 simp only [f4, f5, f6, f7, if_true]
 refine Ev.bind p1 ?_
 dsimp only
 have gw : ∀ (d j : Nat), j + d = e.f3.length → Ev (fun k => spec_l18Read.l0 k (hdE e :: wordsE e) ((e.f2.length + j + 1 : Nat) : Int) e.f0 e.f1 e.f2 (e.f3.take j)) (e.f0, e.f1, e.f2, e.f3) := by
  intro d
  induction d with
  | zero =>
   intro j hj
   obtain rfl : j = e.f3.length := by omega
   have g1 : ¬ ((e.f2.length + e.f3.length + 1 : Nat) : Int) < ((hdE e :: wordsE e).length : Int) := by omega
   rw [List.take_of_length_le (Nat.le_refl _)]
   refine Ev.succ ?_
   simp only [spec_l18Read.l0, g1, if_false]
   refine Ev.succ ?_
   simp only [spec_l18Read.j1, Bool.false_eq_true, if_false]; exact Ev.now _
  | succ d ih =>
   intro j hj
   have hj' : j < e.f3.length := by omega
   have hm := okw _ (List.getElem_mem hj')
   unfold okW at hm
   obtain ⟨_, v1, v2⟩ := val_ok e.f3[j].f1 (by omega) (by omega)
   refine l18_word (hdE e :: wordsE e) (e.f2.length + j + 1) (by omega) (by omega) 119 (.inr rfl) e.f3[j].f0 e.f3[j].f1 (vx e.f3[j].f1) (by omega) (v2 58 (by decide)) (vx_spec _ (by omega) (by omega)).2.2 v1 ?_ _ _ _ _ (by omega) (by rw [List.length_take]; omega) ?_
   ·rw [List.getElem_cons_succ]
    unfold wordsE
    rw [List.getElem_append_right (by simp)]
    simp [wW]
   ·have hn := ih (j + 1) (by omega)
    rw [← List.take_append_getElem hj', show e.f2.length + (j + 1) + 1 = e.f2.length + j + 1 + 1 from by omega] at hn
    simpa only [show ¬ ((119 : UInt8) = 114) from by decide, if_false] using hn
 have gr : ∀ (d j : Nat), j + d = e.f2.length → Ev (fun k => spec_l18Read.l0 k (hdE e :: wordsE e) ((j + 1 : Nat) : Int) e.f0 e.f1 (e.f2.take j) []) (e.f0, e.f1, e.f2, e.f3) := by
  intro d
  induction d with
  | zero =>
   intro j hj
   obtain rfl : j = e.f2.length := by omega
   rw [List.take_of_length_le (Nat.le_refl _)]
   exact gw e.f3.length 0 (by omega)
  | succ d ih =>
   intro j hj
   have hj' : j < e.f2.length := by omega
   have hm := okr _ (List.getElem_mem hj')
   unfold okR at hm
   obtain ⟨_, _, v1, v2⟩ := num_ok e.f2[j].f1 (by omega) (by omega)
   refine l18_word (hdE e :: wordsE e) (j + 1) (by omega) (by omega) 114 (.inl rfl) e.f2[j].f0 e.f2[j].f1 (tx e.f2[j].f1) (by omega) (v2 58 (by decide)) (tx_spec _ (by omega) (by omega)).2.2 v1 ?_ _ _ _ _ (by rw [List.length_take]; omega) (by simp) ?_
   ·rw [List.getElem_cons_succ]
    unfold wordsE
    rw [List.getElem_append_left (by simpa using hj')]
    simp [wR]
   ·have hn := ih (j + 1) (by omega)
    rw [← List.take_append_getElem hj'] at hn
    simpa only [if_true] using hn
 exact gr e.f2.length 0 (by omega)
def GoodH (s : ByteArray) (r : List S33 × Bool) : Prop := r = ([], false) ∨ ∃ h : List S33, r = (h, true) ∧ (h.length ≤ 9 ∧ 0 < h.length ∧ (∀ e ∈ h, okE e) ∧ s.data.toList = Lib.join (h.map enL) [59, 32]) ∧ Ev (fun k => spec_FormatHistory.f k h) s ∧ Ev (fun k => impl_FormatHistory.f k h) s
theorem tail_h (s : ByteArray) (hne : ¬ s.toList = ([] : List UInt8)) (hnn : ¬ s.toList = ([110, 111, 110, 101] : List UInt8)) (h : List S33) (hl : h.length ≤ 1048576) (hn : ∀ e ∈ h, fitd_Entry e) : ∃ r : List S33 × Bool, Ev (fun k => (spec_FormatHistory.f k h).bind fun t => (if t.toList = s.toList then (some (h, true)) else (some (([] : List S33), false)))) r ∧ Ev (fun k => (impl_FormatHistory.f k h).bind fun t => (if t.toList = s.toList then (some (h, true)) else (some (([] : List S33), false)))) r ∧ GoodH s r := by
 obtain ⟨t, h1, h2, h3⟩ := both_FormatHistory h hl hn
 by_cases c : t.toList = s.toList
 ·obtain rfl := bytes_eq c
  refine ⟨(h, true), Ev.bind h1 (by simp only [if_true]; exact Ev.now _), Ev.bind h2 (by simp only [if_true]; exact Ev.now _), .inr ⟨h, rfl, ?_, h1, h2⟩⟩
  rcases h3 with h3 | h3 | h3
  ·exact absurd h3 hne
  ·exact absurd h3 hnn
  ·exact h3
 ·exact ⟨([], false), Ev.bind h1 (by simp only [c, if_false]; exact Ev.now _), Ev.bind h2 (by simp only [c, if_false]; exact Ev.now _), .inl rfl⟩
theorem acc_total (ws : List ByteArray) (hz : ∀ x ∈ ws, x.size ≤ 1048576) (hl : ws.length ≤ 1048577) : ∃ r : List S48 × List S50, Ev (fun k => impl_parseAccesses.f k ws) r ∧ r.1.length + r.2.length ≤ ws.length := by
 unfold impl_parseAccesses.f
 refine ev_to (σ := List S48 × List S50) (fun s i k => impl_parseAccesses.l0 k s.1 s.2 ws (ws.length : Int) (i : Int)) ws.length (fun s i => s.1.length + s.2.length ≤ i) (fun r => r.1.length + r.2.length ≤ ws.length) ?_ ?_ ([], []) 0 (Nat.zero_le _) (by simp)
 ·rintro ⟨rs, vs⟩ i hi hI ih
  dsimp only at hI ih ⊢
  have h1 : (i : Int) < (ws.length : Int) := by omega
  have e : rdOf ByteArray.empty ws (i : Int) = ws[i] := by simp [rdOf, hi]
  have hs := hz _ (List.getElem_mem hi)
  by_cases c : ws[i].toList = ([] : List UInt8)
  ·obtain ⟨r, hr, hR⟩ := ih (rs, vs) (by dsimp only; omega)
   refine ⟨r, Ev.succ ?_, hR⟩
   simp only [impl_parseAccesses.l0, h1, Int.natCast_nonneg, if_true, e, c, wrap_up hi (by omega)]
   exact hr
  ·have hne := ne_size c
   have g1 : 1 ≤ (ws[i].size : Int) := by omega
   have g2 : 0 < (ws[i].size : Int) := by omega
   obtain ⟨a, b, t, hc, ha, hb⟩ := scut_total (ws[i].extract 1 ws[i].size) (⟨#[58]⟩ : ByteArray) (by simp only [ByteArray.size_extract]; omega)
   simp only [ByteArray.size_extract] at ha hb
   obtain ⟨⟨n, tn⟩, hn⟩ := pint_total a (by omega)
   have q1 : rs.length < 8796093022208 := by omega
   have q2 : vs.length < 8796093022208 := by omega
   by_cases c2 : bt ws[i] 0 = 114
   ·obtain ⟨⟨m, tm⟩, hm⟩ := pint_total b (by omega)
    obtain ⟨r, hr, hR⟩ := ih (rs ++ [⟨n, m⟩], vs) (by simp; omega)
    refine ⟨r, Ev.succ ?_, hR⟩
    simp only [impl_parseAccesses.l0, h1, Int.natCast_nonneg, if_true, e, c, if_false, g1, hc, Option.bind_some, hn, g2, c2, hm, q1, wrap_up hi (by omega)]
    exact hr
   ·obtain ⟨⟨m, tm⟩, hm⟩ := pval_total b (by omega)
    obtain ⟨r, hr, hR⟩ := ih (rs, vs ++ [⟨n, m⟩]) (by simp; omega)
    refine ⟨r, Ev.succ ?_, hR⟩
    simp only [impl_parseAccesses.l0, h1, Int.natCast_nonneg, if_true, e, c, if_false, g1, hc, Option.bind_some, hn, g2, c2, hm, q2, wrap_up hi (by omega)]
    exact hr
 ·rintro ⟨rs, vs⟩ hI
  refine ⟨(rs, vs), Ev.succ ?_, hI⟩
  simp only [impl_parseAccesses.l0, Int.lt_irrefl, if_false]; exact Ev.now _
theorem count_pieces (s sep : ByteArray) (h1 : 1 ≤ sep.size) : (piecesS sep s).length = Lib.countB s sep + 1 := Lib.splitB_all sep h1 0 _ s rfl
theorem impl_total (s : ByteArray) (hs : s.size ≤ 1048576) (hne : ¬ s.toList = ([] : List UInt8)) (hnn : ¬ s.toList = ([110, 111, 110, 101] : List UInt8)) : ∃ r, Ev (fun k => impl_ParseHistory.f k s) r ∧ GoodH s r := by
 have hcnt := Lib.countB_mul_le (⟨#[59, 32]⟩ : ByteArray) (by decide) s.size s (Nat.le_refl _)
 have hsz : (⟨#[59, 32]⟩ : ByteArray).size = 2 := rfl
 rw [hsz] at hcnt
 have hlen := count_pieces s (⟨#[59, 32]⟩ : ByteArray) (by decide)
 have hple : ∀ x ∈ piecesS (⟨#[59, 32]⟩ : ByteArray) s, x.size ≤ s.size := split_le (⟨#[59, 32]⟩ : ByteArray) (Lib.countB s (⟨#[59, 32]⟩ : ByteArray)) s
 unfold impl_ParseHistory.f
 simp only [hnn, if_false, ssplit_eq s (⟨#[59, 32]⟩ : ByteArray) hs (by decide), Option.bind_some]
 generalize piecesS (⟨#[59, 32]⟩ : ByteArray) s = ps at hlen hple
 refine ev_to (σ := List S33) (fun xs i k => impl_ParseHistory.l0 k s xs ps (ps.length : Int) (i : Int)) ps.length (fun xs i => xs.length ≤ i ∧ ∀ e ∈ xs, fitd_Entry e) (GoodH s) ?_ ?_ [] 0 (Nat.zero_le _) ⟨Nat.le_refl _, by simp⟩
 ·rintro xs i hi ⟨hx, hf⟩ ih
  have h1 : (i : Int) < (ps.length : Int) := by omega
  have e : rdOf ByteArray.empty ps (i : Int) = ps[i] := by simp [rdOf, hi]
  have hz := hple _ (List.getElem_mem hi)
  have hw := ssplit_eq ps[i] (⟨#[32]⟩ : ByteArray) (by omega) (by decide)
  have hwl := count_pieces ps[i] (⟨#[32]⟩ : ByteArray) (by decide)
  have hwc := Lib.countB_le (⟨#[32]⟩ : ByteArray) (by decide) ps[i].size ps[i] (Nat.le_refl _)
  have hwz : ∀ x ∈ piecesS (⟨#[32]⟩ : ByteArray) ps[i], x.size ≤ ps[i].size := split_le (⟨#[32]⟩ : ByteArray) (Lib.countB ps[i] (⟨#[32]⟩ : ByteArray)) ps[i]
  generalize piecesS (⟨#[32]⟩ : ByteArray) ps[i] = wsx at hw hwl hwz
  have g0 : 0 < (wsx.length : Int) := by omega
  have g0' : 0 < wsx.length := by omega
  have g1 : 1 ≤ (wsx.length : Int) := by omega
  have e0 : rdOf ByteArray.empty wsx 0 = wsx[0] := by simp [rdOf, g0']
  have hz0 := hwz _ (List.getElem_mem g0')
  obtain ⟨a, b, t, hc, ha, hb⟩ := scut_total wsx[0] (⟨#[64]⟩ : ByteArray) (by omega)
  obtain ⟨⟨n, tn⟩, hn⟩ := pint_total a (by omega)
  obtain ⟨⟨m, tm⟩, hm⟩ := pint_total b (by omega)
  obtain ⟨⟨rs, vs⟩, hac, hal⟩ := acc_total (wsx.drop 1) (fun x hx' => by have := hwz x (List.mem_of_mem_drop hx'); omega) (by rw [List.length_drop]; omega)
  dsimp only at hal
  rw [List.length_drop] at hal
  have q : xs.length < 2199023255552 := by omega
  obtain ⟨r, hr, hR⟩ := ih (xs ++ [⟨n, m, rs, vs⟩]) ⟨by simp; omega, fun x hx' => by
   rcases List.mem_append.mp hx' with hx' | hx'
   ·exact hf x hx'
   ·rw [List.mem_singleton.mp hx']
    exact ⟨by dsimp only; omega, by dsimp only; omega⟩⟩
  refine ⟨r, Ev.succ ?_, hR⟩
  simp only [impl_ParseHistory.l0, h1, Int.natCast_nonneg, if_true, e, hw, Option.bind_some, g0, e0, hc, hn, hm, g1]
  refine Ev.bind hac ?_
  simp only [q, if_true, wrap_up hi (by omega)]
  exact hr
 ·rintro xs ⟨hx, hf⟩
  obtain ⟨r, _, hr, hg⟩ := tail_h s hne hnn xs (by omega) hf
  refine ⟨r, Ev.succ ?_, hg⟩
  simp only [impl_ParseHistory.l0, Int.lt_irrefl, if_false, hne]
  exact hr
theorem l18_total (t : ByteArray) (ht : t.size ≤ 1048576) : ∃ r : Int × Int × List S48 × List S50, Ev (fun k => spec_l18Read.f k t) r ∧ (r.2.2.1.length ≤ 1048576 ∧ r.2.2.2.length ≤ 1048576) := by
 have hcut := cut_split t 32 ht
 have hwl : (pieces 32 t).length = _ := count_pieces t (⟨#[32]⟩ : ByteArray) (by decide)
 have hwz : ∀ x ∈ pieces 32 t, x.size ≤ t.size := split_le (⟨#[32]⟩ : ByteArray) (Lib.countB t (⟨#[32]⟩ : ByteArray)) t
 generalize pieces 32 t = ws at hcut hwl hwz
 have loop : ∀ (a0 a1 : Int) (d i : Nat) (rs : List S48) (vs : List S50), i + d = 70 → rs.length + vs.length ≤ i → ∃ r : Int × Int × List S48 × List S50, Ev (fun k => spec_l18Read.l0 k ws (i : Int) a0 a1 rs vs) r ∧ (r.2.2.1.length ≤ 1048576 ∧ r.2.2.2.length ≤ 1048576) := by
  intro a0 a1 d
  have stop : ∀ (i : Nat) (rs : List S48) (vs : List S50), i ≤ 70 → rs.length + vs.length ≤ i → ∃ r : Int × Int × List S48 × List S50, Ev (fun k => spec_l18Read.j1 k ws (i : Int) false a0 a1 rs vs) r ∧ (r.2.2.1.length ≤ 1048576 ∧ r.2.2.2.length ≤ 1048576) := by
   intro i rs vs hi hr
   refine ⟨(a0, a1, rs, vs), Ev.succ ?_, by dsimp only; omega, by dsimp only; omega⟩
   simp only [spec_l18Read.j1, Bool.false_eq_true, if_false]; exact Ev.now _
  induction d with
  | zero =>
   intro i rs vs hi hr
   obtain ⟨r, h, hR⟩ := stop i rs vs (by omega) hr
   have h70 : ¬ (i : Int) < 70 := by omega
   refine ⟨r, Ev.succ ?_, hR⟩
   by_cases c : (i : Int) < (ws.length : Int)
   ·simp only [spec_l18Read.l0, c, if_true, h70, decide_false]; exact h
   ·simp only [spec_l18Read.l0, c, if_false]; exact h
  | succ d ih =>
   intro i rs vs hi hr
   by_cases c : (i : Int) < (ws.length : Int)
   rotate_left
   ·obtain ⟨r, h, hR⟩ := stop i rs vs (by omega) hr
    refine ⟨r, Ev.succ ?_, hR⟩
    simp only [spec_l18Read.l0, c, if_false]; exact h
   have h70 : (i : Int) < 70 := by omega
   have hi' : i < ws.length := by omega
   have e : rdOf ByteArray.empty ws (i : Int) = ws[i] := by simp [rdOf, hi']
   have hz := hwz _ (List.getElem_mem hi')
   have hcw := cut_split ws[i] 58 (by omega)
   have e0 : wrap64 ((i : Int) + 1) = ((i + 1 : Nat) : Int) := wrap_up (i := i) (n := 99) (by omega) (by omega)
   have skip : ∀ x7 : List ByteArray, ∃ r : Int × Int × List S48 × List S50, Ev (fun k => spec_l18Read.j2 k ws (i : Int) x7 true a0 a1 rs vs) r ∧ (r.2.2.1.length ≤ 1048576 ∧ r.2.2.2.length ≤ 1048576) := by
    intro x7
    obtain ⟨r, h, hR⟩ := ih (i + 1) rs vs (by omega) (by omega)
    refine ⟨r, Ev.succ ?_, hR⟩
    simp only [spec_l18Read.j2, if_true, e0]; exact h
   have main : ∃ r : Int × Int × List S48 × List S50, Ev (fun k => spec_l18Read.j1 k ws (i : Int) true a0 a1 rs vs) r ∧ (r.2.2.1.length ≤ 1048576 ∧ r.2.2.2.length ≤ 1048576) := by
    have start : ∀ r, Ev (fun k => if ((pieces 58 ws[i]).length : Int) = 2 then (if 0 < ((pieces 58 ws[i]).length : Int) then (spec_l18Read.j2 k ws (i : Int) (pieces 58 ws[i]) (((rdOf ByteArray.empty (pieces 58 ws[i]) 0).size : Int) != 2) a0 a1 rs vs) else none) else (spec_l18Read.j2 k ws (i : Int) (pieces 58 ws[i]) true a0 a1 rs vs)) r → Ev (fun k => spec_l18Read.j1 k ws (i : Int) true a0 a1 rs vs) r := by
     intro r h
     refine Ev.succ ?_
     simp only [spec_l18Read.j1, if_true, Int.natCast_nonneg, c, e]
     exact Ev.bind hcw h
    by_cases c2 : ((pieces 58 ws[i]).length : Int) = 2
    rotate_left
    ·obtain ⟨r, h, hR⟩ := skip (pieces 58 ws[i])
     exact ⟨r, start r (by simp only [c2, if_false]; exact h), hR⟩
    have g2 : (0 : Int) < 2 := by decide
    have g12 : (1 : Int) < 2 := by decide
    by_cases c3 : ((rdOf ByteArray.empty (pieces 58 ws[i]) 0).size : Int) = 2
    rotate_left
    ·obtain ⟨r, h, hR⟩ := skip (pieces 58 ws[i])
     have cb : (((rdOf ByteArray.empty (pieces 58 ws[i]) 0).size : Int) != 2) = true := bne_iff_ne.mpr c3
     exact ⟨r, start r (by simp only [c2, g2, if_true, cb]; exact h), hR⟩
    have cb : (((rdOf ByteArray.empty (pieces 58 ws[i]) 0).size : Int) != 2) = false := bne_eq_false_iff_eq.mpr c3
    obtain ⟨v, hv⟩ := snum_total (rdOf ByteArray.empty (pieces 58 ws[i]) 1)
    have q1 : rs.length < 8796093022208 := by omega
    have q2 : vs.length < 8796093022208 := by omega
    by_cases c4 : bt (rdOf ByteArray.empty (pieces 58 ws[i]) 0) 0 = 114
    ·obtain ⟨r, h, hR⟩ := ih (i + 1) (rs ++ [⟨wrap64 ((wrap64 (bt (rdOf ByteArray.empty (pieces 58 ws[i]) 0) 1)) - 48), v⟩]) vs (by omega) (by simp; omega)
     refine ⟨r, start r ?_, hR⟩
     simp only [c2, g2, if_true, cb]
     refine Ev.succ ?_
     simp only [spec_l18Read.j2, Bool.false_eq_true, if_false, c2, g2, g12, if_true, c3]
     refine Ev.bind hv ?_
     simp only [c4, if_true, q1, e0]; exact h
    ·obtain ⟨r, h, hR⟩ := ih (i + 1) rs (vs ++ [⟨wrap64 ((wrap64 (bt (rdOf ByteArray.empty (pieces 58 ws[i]) 0) 1)) - 48), v⟩]) (by omega) (by simp; omega)
     refine ⟨r, start r ?_, hR⟩
     simp only [c2, g2, if_true, cb]
     refine Ev.succ ?_
     simp only [spec_l18Read.j2, Bool.false_eq_true, if_false, c2, g2, g12, if_true, c3]
     refine Ev.bind hv ?_
     simp only [c4, if_true, if_false, q2, e0]; exact h
   obtain ⟨r, h, hR⟩ := main
   refine ⟨r, Ev.succ ?_, hR⟩
   simp only [spec_l18Read.l0, c, if_true, h70, decide_true]; exact h
 have g0 : 0 < (ws.length : Int) := by omega
 have g0' : 0 < ws.length := by omega
 have e0 : rdOf ByteArray.empty ws 0 = ws[0] := by simp [rdOf, g0']
 have hz0 := hwz _ (List.getElem_mem g0')
 have hc2 := cut_split ws[0] 64 (by omega)
 have hl2 : (pieces 64 ws[0]).length = _ := count_pieces ws[0] (⟨#[64]⟩ : ByteArray) (by decide)
 have hct2 := Lib.countB_le (⟨#[64]⟩ : ByteArray) (by decide) ws[0].size ws[0] (Nat.le_refl _)
 generalize pieces 64 ws[0] = hs at hc2 hl2
 have k0 : 0 < (hs.length : Int) := by omega
 have k1 : wrap64 ((hs.length : Int) - 1) = (hs.length : Int) - 1 := wrap_in (by omega) (by omega)
 have k2 : 0 ≤ (hs.length : Int) - 1 := by omega
 have k3 : (hs.length : Int) - 1 < (hs.length : Int) := by omega
 obtain ⟨⟨n, tn⟩, hn⟩ := sint_total (rdOf ByteArray.empty hs 0)
 obtain ⟨⟨m, tm⟩, hm⟩ := sint_total (rdOf ByteArray.empty hs ((hs.length : Int) - 1))
 obtain ⟨r, h, hR⟩ := loop n m 69 1 [] [] rfl (by simp)
 refine ⟨r, ?_, hR⟩
 unfold spec_l18Read.f
 refine Ev.bind hcut ?_
 simp only [g0, if_true, e0]
 refine Ev.bind hc2 ?_
 simp only [k0, if_true]
 refine Ev.bind hn ?_
 simp only [k1, k2, k3, if_true]
 exact Ev.bind hm h
theorem spec_total (s : ByteArray) (hs : s.size ≤ 1048576) (hne : ¬ s.toList = ([] : List UInt8)) (hnn : ¬ s.toList = ([110, 111, 110, 101] : List UInt8)) : ∃ r, Ev (fun k => spec_ParseHistory.f k s) r ∧ GoodH s r := by
 have hcut := cut_split s 59 hs
 have hple : ∀ x ∈ pieces 59 s, x.size ≤ s.size := split_le (⟨#[59]⟩ : ByteArray) (Lib.countB s (⟨#[59]⟩ : ByteArray)) s
 generalize pieces 59 s = ps at hcut hple
 suffices h : ∀ (d i : Nat) (xs : List S33), i + d = 10 → xs.length ≤ i → (∀ e ∈ xs, fitd_Entry e) → ∃ r, Ev (fun k => spec_ParseHistory.l0 k s xs ps (i : Int)) r ∧ GoodH s r by
  obtain ⟨r, h, hg⟩ := h 10 0 [] rfl (Nat.le_refl _) (by simp)
  refine ⟨r, ?_, hg⟩
  unfold spec_ParseHistory.f
  simp only [Option.bind_some, hnn, if_false]
  exact Ev.bind hcut h
 intro d
 have stop : ∀ (i : Nat) (xs : List S33), xs.length ≤ 10 → (∀ e ∈ xs, fitd_Entry e) → ∃ r, Ev (fun k => spec_ParseHistory.j1 k s xs ps (i : Int) false) r ∧ GoodH s r := by
  intro i xs hx hf
  obtain ⟨r, hr, _, hg⟩ := tail_h s hne hnn xs (by omega) hf
  refine ⟨r, Ev.succ ?_, hg⟩
  simp only [spec_ParseHistory.j1, Bool.false_eq_true, if_false, hne]
  exact hr
 induction d with
 | zero =>
  intro i xs hi hx hf
  obtain ⟨r, h, hR⟩ := stop i xs (by omega) hf
  have h9 : ¬ (i : Int) ≤ 9 := by omega
  refine ⟨r, Ev.succ ?_, hR⟩
  by_cases c : (i : Int) < (ps.length : Int)
  ·simp only [spec_ParseHistory.l0, c, if_true, h9, decide_false]; exact h
  ·simp only [spec_ParseHistory.l0, c, if_false]; exact h
 | succ d ih =>
  intro i xs hi hx hf
  by_cases c : (i : Int) < (ps.length : Int)
  rotate_left
  ·obtain ⟨r, h, hR⟩ := stop i xs (by omega) hf
   refine ⟨r, Ev.succ ?_, hR⟩
   simp only [spec_ParseHistory.l0, c, if_false]; exact h
  have h9 : (i : Int) ≤ 9 := by omega
  have hi' : i < ps.length := by omega
  have e : rdOf ByteArray.empty ps (i : Int) = ps[i] := by simp [rdOf, hi']
  have hz := hple _ (List.getElem_mem hi')
  have e0 : wrap64 ((i : Int) + 1) = ((i + 1 : Nat) : Int) := wrap_up (i := i) (n := 99) (by omega) (by omega)
  have q : xs.length < 2199023255552 := by omega
  have one : ∀ t : ByteArray, t.size ≤ 1048576 → ∃ r, Ev (fun k => (spec_l18Read.f k t).bind fun b => (if xs.length < 2199023255552 then (spec_ParseHistory.l0 k s (xs ++ [(⟨b.1, b.2.1, b.2.2.1, b.2.2.2⟩ : S33)]) ps (wrap64 ((i : Int) + 1))) else none)) r ∧ GoodH s r := by
   intro t ht
   obtain ⟨⟨n, m, rs, vs⟩, h, hl⟩ := l18_total t ht
   dsimp only at hl
   obtain ⟨r, hr, hR⟩ := ih (i + 1) (xs ++ [⟨n, m, rs, vs⟩]) (by omega) (by simp; omega) (fun x hx' => by
    rcases List.mem_append.mp hx' with hx' | hx'
    ·exact hf x hx'
    ·rw [List.mem_singleton.mp hx']; exact hl)
   exact ⟨r, Ev.bind h (by simp only [q, if_true, e0]; exact hr), hR⟩
  have main : ∃ r, Ev (fun k => spec_ParseHistory.j1 k s xs ps (i : Int) true) r ∧ GoodH s r := by
   by_cases c0 : (i : Int) > 0
   ·by_cases ct : ps[i].toList = ([] : List UInt8)
    ·obtain ⟨r, h, hR⟩ := one ps[i] (by omega)
     refine ⟨r, Ev.succ ?_, hR⟩
     simp only [spec_ParseHistory.j1, if_true, Int.natCast_nonneg, c, c0, e, ct]; exact h
    ·have g1 : 1 ≤ (ps[i].size : Int) := by have := ne_size ct; omega
     obtain ⟨r, h, hR⟩ := one (ps[i].extract 1 ps[i].size) (by simp only [ByteArray.size_extract]; omega)
     refine ⟨r, Ev.succ ?_, hR⟩
     simp only [spec_ParseHistory.j1, if_true, Int.natCast_nonneg, c, c0, e, ct, if_false, g1]; exact h
   ·obtain ⟨r, h, hR⟩ := one ps[i] (by omega)
    refine ⟨r, Ev.succ ?_, hR⟩
    simp only [spec_ParseHistory.j1, if_true, Int.natCast_nonneg, c, c0, e, if_false]; exact h
  obtain ⟨r, h, hR⟩ := main
  refine ⟨r, Ev.succ ?_, hR⟩
  simp only [spec_ParseHistory.l0, c, if_true, h9, decide_true]; exact h
theorem hist_back (s : ByteArray) (hs : s.size ≤ 1048576) (hne : ¬ s.toList = ([] : List UInt8)) (hnn : ¬ s.toList = ([110, 111, 110, 101] : List UInt8)) (h : List S33) (hh : h.length ≤ 9 ∧ 0 < h.length ∧ (∀ e ∈ h, okE e) ∧ s.data.toList = Lib.join (h.map enL) [59, 32]) (f1 : Ev (fun k => spec_FormatHistory.f k h) s) (f2 : Ev (fun k => impl_FormatHistory.f k h) s) : Ev (fun k => spec_ParseHistory.f k s) (h, true) ∧ Ev (fun k => impl_ParseHistory.f k s) (h, true) := by
 obtain ⟨h9, h0, hok, ht⟩ := hh
 constructor
 ·-- the model cuts at one byte and drops the next
  have hcut := cut_split s 59 hs
  obtain ⟨e, r, rfl⟩ : ∃ e r, h = e :: r := by
   cases h with
   | nil => exact absurd h0 (by simp)
   | cons e r => exact ⟨e, r, rfl⟩
  have hp : pieces 59 s = enB e :: r.map (fun x => (⟨#[32]⟩ : ByteArray) ++ enB x) := by
   refine piecesS_join (⟨#[59]⟩ : ByteArray) 59 [] rfl _ _ (by simp) (fun x hx => ?_) ?_
   ·rcases List.mem_cons.mp hx with rfl | hx
    ·exact en_no59 e (hok e (List.mem_cons_self ..))
    ·obtain ⟨y, hy, rfl⟩ := List.mem_map.mp hx
     rw [cat_data]
     intro hm
     rcases List.mem_append.mp hm with hm | hm
     ·exact absurd (List.mem_singleton.mp hm) (by decide)
     ·exact en_no59 y (hok y (List.mem_cons_of_mem _ hy)) hm
   ·rw [ht, List.map_cons, List.map_cons, join_flat, join_flat]
    congr 2
    rw [List.map_map, List.map_map, List.map_map]
    refine List.map_congr_left fun x _ => ?_
    show [59, 32] ++ enL x = [59] ++ ((⟨#[32]⟩ : ByteArray) ++ enB x).data.toList
    rw [cat_data]; rfl
  have hple : ∀ x ∈ pieces 59 s, x.size ≤ s.size := split_le (⟨#[59]⟩ : ByteArray) (Lib.countB s (⟨#[59]⟩ : ByteArray)) s
  rw [hp] at hcut hple
  have hPl : (enB e :: r.map (fun x => (⟨#[32]⟩ : ByteArray) ++ enB x)).length = (e :: r).length := by simp
  generalize hP : enB e :: r.map (fun x => (⟨#[32]⟩ : ByteArray) ++ enB x) = P at hcut hple hPl
  unfold spec_ParseHistory.f
  simp only [Option.bind_some, hnn, if_false]
  refine Ev.bind hcut ?_
  have go : ∀ (d i : Nat), i + d = (e :: r).length → Ev (fun k => spec_ParseHistory.l0 k s ((e :: r).take i) P (i : Int)) (e :: r, true) := by
   intro d
   induction d with
   | zero =>
    intro i hi
    have g1 : ¬ (i : Int) < (P.length : Int) := by omega
    rw [List.take_of_length_le (by omega)]
    refine Ev.succ ?_
    simp only [spec_ParseHistory.l0, g1, if_false]
    refine Ev.succ ?_
    simp only [spec_ParseHistory.j1, Bool.false_eq_true, if_false, hne]
    exact Ev.bind f1 (by simp only [if_true]; exact Ev.now _)
   | succ d ih =>
    intro i hi
    have hi' : i < (e :: r).length := by omega
    have hiP : i < P.length := by omega
    have g1 : (i : Int) < (P.length : Int) := by omega
    have g9 : (i : Int) ≤ 9 := by omega
    have e1 : rdOf ByteArray.empty P (i : Int) = P[i] := by simp [rdOf, hiP]
    have hz := hple _ (List.getElem_mem hiP)
    have hn := ih (i + 1) (by omega)
    rw [← List.take_append_getElem hi'] at hn
    have q : ((e :: r).take i).length < 2199023255552 := by rw [List.length_take]; omega
    have e0 : wrap64 ((i : Int) + 1) = ((i + 1 : Nat) : Int) := wrap_up (i := i) (n := 99) (by omega) (by omega)
    refine Ev.succ ?_
    simp only [spec_ParseHistory.l0, g1, if_true, g9, decide_true]
    refine Ev.succ ?_
    cases i with
    | zero =>
     have ep : P[0] = enB e := by subst hP; rfl
     have hb := l18_back e (hok e (List.mem_cons_self ..)) (by rw [← ep]; omega)
     have c0 : ¬ (((0 : Nat) : Int) > 0) := by decide
     simp only [spec_ParseHistory.j1, if_true, Int.natCast_nonneg, g1, c0, if_false, e1, ep]
     refine Ev.bind hb ?_
     simp only [q, if_true, e0]
     exact hn
    | succ i =>
     have hir : i < r.length := by simpa using hi'
     have ep : P[i + 1] = (⟨#[32]⟩ : ByteArray) ++ enB r[i] := by subst hP; simp
     have c0 : (((i + 1 : Nat) : Int) > 0) := by omega
     have hsz : ((⟨#[32]⟩ : ByteArray) ++ enB r[i]).size = 1 + (enB r[i]).size := by rw [ByteArray.size_append, s1]
     have ct := size_ne (s := (⟨#[32]⟩ : ByteArray) ++ enB r[i]) (by omega)
     have g2 : 1 ≤ (((⟨#[32]⟩ : ByteArray) ++ enB r[i]).size : Int) := by omega
     have ex : ((⟨#[32]⟩ : ByteArray) ++ enB r[i]).extract 1 ((⟨#[32]⟩ : ByteArray) ++ enB r[i]).size = enB r[i] := by
      have := (ext_mid ((⟨#[32]⟩ : ByteArray) ++ enB r[i]) [] [32] (enB r[i]).data.toList (by rw [cat_data]; rfl)).2
      exact this.trans (of_data (enB r[i]) _ rfl).symm
     rw [ep] at hz
     have hb := l18_back r[i] (hok _ (List.mem_cons_of_mem _ (List.getElem_mem hir))) (by omega)
     simp only [spec_ParseHistory.j1, if_true, Int.natCast_nonneg, g1, c0, e1, ep, ct, if_false, g2, ex]
     refine Ev.bind hb ?_
     simp only [q, if_true, e0]
     exact hn
  exact go (e :: r).length 0 (by omega)
 ·have hp : piecesS (⟨#[59, 32]⟩ : ByteArray) s = h.map enB := by
   refine piecesS_join (⟨#[59, 32]⟩ : ByteArray) 59 [32] rfl _ _ (by intro hc; rw [List.map_eq_nil_iff] at hc; subst hc; exact absurd h0 (by simp)) (fun x hx => ?_) ?_
   ·obtain ⟨y, hy, rfl⟩ := List.mem_map.mp hx
    exact en_no59 y (hok y hy)
   ·rw [ht, List.map_map]; rfl
  have hple : ∀ x ∈ piecesS (⟨#[59, 32]⟩ : ByteArray) s, x.size ≤ s.size := split_le (⟨#[59, 32]⟩ : ByteArray) (Lib.countB s (⟨#[59, 32]⟩ : ByteArray)) s
  rw [hp] at hple
  unfold impl_ParseHistory.f
  simp only [hnn, if_false, ssplit_eq s (⟨#[59, 32]⟩ : ByteArray) hs (by decide), Option.bind_some, hp]
  have go : ∀ (d i : Nat), i + d = h.length → Ev (fun k => impl_ParseHistory.l0 k s (h.take i) (h.map enB) ((h.map enB).length : Int) (i : Int)) (h, true) := by
   intro d
   induction d with
   | zero =>
    intro i hi
    have g1 : ¬ (i : Int) < ((h.map enB).length : Int) := by rw [List.length_map]; omega
    rw [List.take_of_length_le (by omega)]
    refine Ev.succ ?_
    simp only [impl_ParseHistory.l0, g1, if_false, hne]
    exact Ev.bind f2 (by simp only [if_true]; exact Ev.now _)
   | succ d ih =>
    intro i hi
    have hi' : i < h.length := by omega
    have him : i < (h.map enB).length := by rw [List.length_map]; omega
    have g1 : (i : Int) < ((h.map enB).length : Int) := by omega
    have ho := hok _ (List.getElem_mem hi')
    have e1 : rdOf ByteArray.empty (h.map enB) (i : Int) = enB h[i] := by simp [rdOf, hi']
    have hz : (enB h[i]).size ≤ s.size := hple _ (List.mem_map.mpr ⟨_, List.getElem_mem hi', rfl⟩)
    have hw := ssplit_eq (enB h[i]) (⟨#[32]⟩ : ByteArray) (by omega) (by decide)
    rw [en_pieces _ ho] at hw
    have hb := acc_back h[i] ho
    have g2 : 0 < ((hdE h[i] :: wordsE h[i]).length : Int) := by rw [List.length_cons]; omega
    have g3 : 1 ≤ ((hdE h[i] :: wordsE h[i]).length : Int) := by rw [List.length_cons]; omega
    have e2 : rdOf ByteArray.empty (hdE h[i] :: wordsE h[i]) 0 = hdE h[i] := rfl
    have e3 : (hdE h[i] :: wordsE h[i]).drop 1 = wordsE h[i] := rfl
    obtain ⟨hid, hst, _⟩ := ho
    obtain ⟨p0, _, _, n0⟩ := num_ok h[i].f0 (by omega) (by omega)
    obtain ⟨p1, _, _, _⟩ := num_ok h[i].f1 (by omega) (by omega)
    have z0 := (tx_spec h[i].f0 (by omega) (by omega)).2.2
    have z1 := (tx_spec h[i].f1 (by omega) (by omega)).2.2
    have hc := cut_at (hdE h[i]) (tx h[i].f0) (tx h[i].f1) 64 (by unfold hdE; simp only [cat_data]) (n0 64 (by decide)) (by unfold hdE; simp only [ByteArray.size_append, s1]; omega)
    have hn := ih (i + 1) (by omega)
    rw [← List.take_append_getElem hi'] at hn
    have q : (h.take i).length < 2199023255552 := by rw [List.length_take]; omega
    refine Ev.succ ?_
    simp only [impl_ParseHistory.l0, g1, Int.natCast_nonneg, if_true, e1, hw, Option.bind_some, g2, e2, hc, p0, p1, g3, e3]
    refine Ev.bind hb ?_
    simp only [q, if_true, wrap_up hi' (by omega)]
    exact hn
  exact go h.length 0 (by omega)
theorem both_ParseHistory (s : ByteArray) (hs : s.size ≤ 1048576) : ∃ (h : List S33) (b : Bool), Ev (fun k => spec_ParseHistory.f k s) (h, b) ∧ Ev (fun k => impl_ParseHistory.f k s) (h, b) ∧ h.length ≤ 9 ∧ ∀ e ∈ h, okE e := by
 by_cases hnn : s.toList = ([110, 111, 110, 101] : List UInt8)
 ·refine ⟨[], true, ?_, ?_, by simp, by simp⟩
  ·unfold spec_ParseHistory.f
   simp only [Option.bind_some, hnn, if_true]; exact Ev.now _
  ·unfold impl_ParseHistory.f
   simp only [hnn, if_true]; exact Ev.now _
 by_cases hne : s.toList = ([] : List UInt8)
 ·obtain rfl : s = (⟨#[]⟩ : ByteArray) := bytes_eq (by rw [hne, ByteArray.toList_eq])
  have h1 : spec_ParseHistory.f 20 (⟨#[]⟩ : ByteArray) = some ([], false) := by kernel_rfl
  have h2 : impl_ParseHistory.f 20 (⟨#[]⟩ : ByteArray) = some ([], false) := by kernel_rfl
  exact ⟨[], false, Ev.of (spec_ParseHistory.mono _) h1, Ev.of (impl_ParseHistory.mono _) h2, by simp, by simp⟩
 obtain ⟨r, hr, gr⟩ := spec_total s hs hne hnn
 obtain ⟨q, hq, gq⟩ := impl_total s hs hne hnn
 rcases gr with rfl | ⟨h, rfl, hh, f1, f2⟩
 ·rcases gq with rfl | ⟨h, rfl, hh, f1, f2⟩
  ·exact ⟨[], false, hr, hq, by simp, by simp⟩
  ·have := (hist_back s hs hne hnn h hh f1 f2).1
   exact ⟨h, true, this, hq, hh.1, hh.2.2.1⟩
 ·exact ⟨h, true, hr, (hist_back s hs hne hnn h hh f1 f2).2, hh.1, hh.2.2.1⟩
def mkE : List S33 → Int → List S33
 | [], _ => []
 | e :: r, a => ⟨a, a + 1, markL mkReadMark 2 e.f2.length (a + 2), markL mkWrite 2 e.f3.length (a + 2 + 2 * (e.f2.length : Int))⟩ :: mkE r (a + 2 + 2 * (e.f2.length : Int) + 2 * (e.f3.length : Int))
def endE : List S33 → Int → Int
 | [], a => a
 | e :: r, a => endE r (a + 2 + 2 * (e.f2.length : Int) + 2 * (e.f3.length : Int))
theorem endE_ge : ∀ (l : List S33) (a : Int), a ≤ endE l a
 | [], _ => Int.le_refl _
 | e :: r, a => by
  have := endE_ge r (a + 2 + 2 * (e.f2.length : Int) + 2 * (e.f3.length : Int))
  simp only [endE]; omega
theorem mark_ent : ∀ (rest pre : List S33) (a : Int), 0 ≤ a → a + 200 * (rest.length : Int) ≤ 10000 → (∀ e ∈ rest, okE e) → pre.length + rest.length ≤ 9 → Ev (fun k => laws_markEntryS.l0 k (pre ++ rest) a (pre.length : Int)) (endE rest a, pre ++ mkE rest a)
 | [], pre, a, _, _, _, _ => by
  have g1 : ¬ (pre.length : Int) < ((pre ++ ([] : List S33)).length : Int) := by simp
  refine Ev.succ ?_
  simp only [laws_markEntryS.l0, g1, if_false]; exact Ev.now _
 | e :: r, pre, a, h0, h1, hok, hl => by
  obtain ⟨_, _, h60, _, _, h6⟩ := hok e (List.mem_cons_self ..)
  rw [List.length_cons] at h1 hl
  have b1 : 0 ≤ a + 2 + 2 * (e.f2.length : Int) + 2 * (e.f3.length : Int) := by omega
  have b2 : a + 2 + 2 * (e.f2.length : Int) + 2 * (e.f3.length : Int) + 200 * (r.length : Int) ≤ 10000 := by omega
  have b3 : ∀ x : S33, (pre ++ [x]).length + r.length ≤ 9 := by intro x; rw [List.length_append, List.length_singleton]; omega
  have g1 : (pre.length : Int) < ((pre ++ e :: r).length : Int) := by rw [List.length_append, List.length_cons]; omega
  have hrd : rd_T33 (pre ++ e :: r) (pre.length : Int) = e := by simp [rd_T33]
  have w1 : wrap64 (a + 1) = a + 1 := wrap_in (by omega) (by omega)
  have w2 : wrap64 (a + 1 + 1) = a + 2 := by rw [wrap_in (by omega) (by omega)]; omega
  have e0 : wrap64 ((pre.length : Int) + 1) = ((pre.length + 1 : Nat) : Int) := wrap_up (i := pre.length) (n := 99) (by omega) (by omega)
  have m1 := ev_markReadMarkS (a + 2) ⟨by omega, by omega⟩ e.f2 (by omega)
  have m2 := ev_markWriteS (a + 2 + 2 * (e.f2.length : Int)) ⟨by omega, by omega⟩ e.f3 (by omega)
  have hn := mark_ent r (pre ++ [⟨a, a + 1, markL mkReadMark 2 e.f2.length (a + 2), markL mkWrite 2 e.f3.length (a + 2 + 2 * (e.f2.length : Int))⟩]) (a + 2 + 2 * (e.f2.length : Int) + 2 * (e.f3.length : Int)) b1 b2 (fun x hx => hok x (List.mem_cons_of_mem _ hx)) (b3 _)
  have hset : ∀ x : S33, (pre ++ e :: r).set pre.length x = (pre ++ [x]) ++ r := by intro x; simp
  refine Ev.succ ?_
  simp only [laws_markEntryS.l0, g1, Int.natCast_nonneg, if_true, hrd, w1, w2]
  refine Ev.bind m1 ?_
  dsimp only
  refine Ev.bind m2 ?_
  simp only [Int.toNat_natCast, hset, e0]
  rw [List.length_append, List.length_singleton] at hn
  simpa only [endE, mkE, List.append_assoc, List.singleton_append] using hn
theorem held_ent : ∀ (rest pre : List S33) (a : Int), 0 ≤ a → a + 200 * (rest.length : Int) ≤ 10000 → (∀ e ∈ rest, okE e) → pre.length + rest.length ≤ 9 → Ev (fun k => laws_heldEntryS.l0 k (pre ++ mkE rest a) a (pre.length : Int)) (endE rest a)
 | [], pre, a, _, _, _, _ => by
  have g1 : ¬ (pre.length : Int) < ((pre ++ mkE [] a).length : Int) := by simp [mkE]
  refine Ev.succ ?_
  simp only [laws_heldEntryS.l0, g1, if_false]; exact Ev.now _
 | e :: r, pre, a, h0, h1, hok, hl => by
  obtain ⟨_, _, h60, _, _, h6⟩ := hok e (List.mem_cons_self ..)
  rw [List.length_cons] at h1 hl
  have b1 : 0 ≤ a + 2 + 2 * (e.f2.length : Int) + 2 * (e.f3.length : Int) := by omega
  have b2 : a + 2 + 2 * (e.f2.length : Int) + 2 * (e.f3.length : Int) + 200 * (r.length : Int) ≤ 10000 := by omega
  have b3 : ∀ x : S33, (pre ++ [x]).length + r.length ≤ 9 := by intro x; rw [List.length_append, List.length_singleton]; omega
  have hmk : pre ++ mkE (e :: r) a = (pre ++ [⟨a, a + 1, markL mkReadMark 2 e.f2.length (a + 2), markL mkWrite 2 e.f3.length (a + 2 + 2 * (e.f2.length : Int))⟩]) ++ mkE r (a + 2 + 2 * (e.f2.length : Int) + 2 * (e.f3.length : Int)) := by simp [mkE]
  have g1 : (pre.length : Int) < ((pre ++ mkE (e :: r) a).length : Int) := by rw [List.length_append]; simp only [mkE, List.length_cons]; omega
  have hrd : rd_T33 (pre ++ mkE (e :: r) a) (pre.length : Int) = ⟨a, a + 1, markL mkReadMark 2 e.f2.length (a + 2), markL mkWrite 2 e.f3.length (a + 2 + 2 * (e.f2.length : Int))⟩ := by simp [rd_T33, mkE]
  have w1 : wrap64 (a + 1) = a + 1 := wrap_in (by omega) (by omega)
  have w2 : wrap64 (a + 1 + 1) = a + 2 := by rw [wrap_in (by omega) (by omega)]; omega
  have e0 : wrap64 ((pre.length : Int) + 1) = ((pre.length + 1 : Nat) : Int) := wrap_up (i := pre.length) (n := 99) (by omega) (by omega)
  have m1 := ev_heldReadMarkS (a + 2) ⟨by omega, by omega⟩ e.f2.length (by omega)
  have m2 := ev_heldWriteS (a + 2 + 2 * (e.f2.length : Int)) ⟨by omega, by omega⟩ e.f3.length (by omega)
  have q1 : ¬ a + 2 + 2 * (e.f2.length : Int) < 0 := by omega
  have q2 : ¬ a + 2 + 2 * (e.f2.length : Int) + 2 * (e.f3.length : Int) < 0 := by omega
  have hn := held_ent r (pre ++ [⟨a, a + 1, markL mkReadMark 2 e.f2.length (a + 2), markL mkWrite 2 e.f3.length (a + 2 + 2 * (e.f2.length : Int))⟩]) (a + 2 + 2 * (e.f2.length : Int) + 2 * (e.f3.length : Int)) b1 b2 (fun x hx => hok x (List.mem_cons_of_mem _ hx)) (b3 _)
  rw [← hmk, List.length_append, List.length_singleton] at hn
  refine Ev.succ ?_
  simp only [laws_heldEntryS.l0, g1, Int.natCast_nonneg, if_true, hrd, w1, w2]
  refine Ev.bind m1 ?_
  simp only [q1, if_false]
  refine Ev.bind m2 ?_
  simp only [q2, if_false, e0]
  exact hn
theorem FnExactParseHistory : laws_FnExactParseHistory.Pure := by
 intro s _
 by_cases c : (s.size : Int) > 1048576
 ·exact .inl c
 obtain ⟨h, b, e1, e2, h9, hok⟩ := both_ParseHistory s (by omega)
 have e3 := ev_eqEntryS h ⟨by omega, fun e he => by
  obtain ⟨_, _, h60, _, _, h6⟩ := hok e he
  exact ⟨by omega, by omega⟩⟩
 have e4 : Ev (fun k => laws_markEntryS.f k h 1) (endE h 1, mkE h 1) := mark_ent h [] 1 (by decide) (by omega) hok (by simpa using h9)
 have e5 : Ev (fun k => laws_heldEntryS.f k (mkE h 1) 1) (endE h 1) := held_ent h [] 1 (by decide) (by omega) hok (by simpa using h9)
 have hp := endE_ge h 1
 have e6 : Ev (fun k => (spec_ParseHistory.f k s).bind fun _ => (impl_ParseHistory.f k s).bind fun _ => (laws_eqEntryS.f k h h).bind fun _ => (laws_markEntryS.f k h 1).bind fun _ => (laws_heldEntryS.f k (mkE h 1) 1).bind fun _ => some ()) () := Ev.bind e1 (Ev.bind e2 (Ev.bind e3 (Ev.bind e4 (Ev.bind e5 (Ev.now ())))))
 obtain ⟨k, hk⟩ := Ev.rounds e6
 obtain ⟨r1, k1, hk⟩ := Option.bind_eq_some_iff.mp hk
 obtain ⟨r2, k2, hk⟩ := Option.bind_eq_some_iff.mp hk
 obtain ⟨r3, k3, hk⟩ := Option.bind_eq_some_iff.mp hk
 obtain ⟨r4, k4, hk⟩ := Option.bind_eq_some_iff.mp hk
 obtain ⟨r5, k5, _⟩ := Option.bind_eq_some_iff.mp hk
 obtain rfl := Ev.uniq (Ev.of (spec_ParseHistory.mono _) k1) e1
 obtain rfl := Ev.uniq (Ev.of (impl_ParseHistory.mono _) k2) e2
 obtain rfl := Ev.uniq (Ev.of (laws_eqEntryS.mono _ _) k3) e3
 obtain rfl := Ev.uniq (Ev.of (laws_markEntryS.mono _ _) k4) e4
 obtain rfl := Ev.uniq (Ev.of (laws_heldEntryS.mono _ _) k5) e5
 exact .inr ⟨k, _, _, _, _, _, c, k1, k2, k3, k4, k5, by omega⟩

end Go.Proofs.YtdfbmaiboadodaaGreatDoor.Pure
