/- The plain statement of FnExactIsHistory: the two checks keep step, entry by entry and mark by mark. Condition: the rows' lengths are at most maxLen. -/
import Derived.Test.YtpiaeinfneoioaaGoodFnExactIsHistory
import Derived.Test.YtpiaeinfneoioaaPlainS
namespace Go.Proofs.Ytpiaeinfneoioaa.Pure
open Go.RowKit Go.Proofs.Ytpiaeinfneoioaa.PFnExactIsHistory Go.Proofs.YtpiaeinfneoioaaW.PrintWords Go.Proofs.YtpiaeinfneoioaaW.PrintLast Go.Proofs.Ytpiaeinfneoioaa.OpenK Go.Proofs.Ytpiaeinfneoioaa.Plain
set_option linter.unusedVariables false
set_option linter.unusedSimpArgs false

theorem sz_ReadMarkS (l : List S30) (a : Int) (h0 : 0 ≤ a) (h1 : a ≤ 1048576) (hl : l.length ≤ 9223372036854775807) : laws_szReadMarkS.f l a = some (if a < l.length then -1 else a - l.length) := by
  unfold laws_szReadMarkS.f
  rw [wrap_in (by omega) (by omega)]
  by_cases h : a < l.length
  · rw [if_pos (by omega), if_pos h]
  · rw [if_neg (by omega), if_neg h]

theorem szx_ReadMark (l : List S30) (a : Int) (h0 : 0 ≤ a) (h1 : a ≤ 1048576) (hl : l.length ≤ 9223372036854775807) : ∃ r, Ev (fun _ => laws_szReadMarkS.f l a) r ∧ r ≤ a ∧ (0 ≤ r → l.length ≤ 1048576) := by
  rw [sz_ReadMarkS l a h0 h1 hl]
  refine ⟨_, Ev.now _, ?_, ?_⟩ <;> split <;> omega

theorem sz_WriteS (l : List S208) (a : Int) (h0 : 0 ≤ a) (h1 : a ≤ 1048576) (hl : l.length ≤ 9223372036854775807) : laws_szWriteS.f l a = some (if a < l.length then -1 else a - l.length) := by
  unfold laws_szWriteS.f
  rw [wrap_in (by omega) (by omega)]
  by_cases h : a < l.length
  · rw [if_pos (by omega), if_pos h]
  · rw [if_neg (by omega), if_neg h]

theorem szx_Write (l : List S208) (a : Int) (h0 : 0 ≤ a) (h1 : a ≤ 1048576) (hl : l.length ≤ 9223372036854775807) : ∃ r, Ev (fun _ => laws_szWriteS.f l a) r ∧ r ≤ a ∧ (0 ≤ r → l.length ≤ 1048576) := by
  rw [sz_WriteS l a h0 h1 hl]
  refine ⟨_, Ev.now _, ?_, ?_⟩ <;> split <;> omega

def cvReadMark (x : S30) : S32 := ⟨x.f0, x.f1⟩
theorem ev_toReadMarkS (l : List S30) (hl : l.length ≤ 1048576) : Ev (fun k => laws_toReadMarkS.f k l) (l.map cvReadMark) := by
  have h : Ev (fun k => laws_toReadMarkS.l0 k l (List.replicate l.length z32) ((0 : Nat) : Int)) (l.map cvReadMark) := by
    refine ev_up (σ := List S32) (fun ys i k => laws_toReadMarkS.l0 k l ys (i : Int)) l.length (fun ys i => Filled (l.map cvReadMark) ys i) (fun _ _ => l.map cvReadMark) ?_ ?_ (List.replicate l.length z32) 0 (Nat.zero_le _) (Filled.start _ _ (by simp))
    · intro ys i hi hI ih
      apply Ev.succ
      have h1 : (i : Int) < (l.length : Int) := by omega
      have h2 : (i : Int) < (ys.length : Int) := by have := hI.1; simp at this; omega
      simp only [laws_toReadMarkS.l0, laws_toReadMark.f, Option.bind_some, h1, h2, Int.natCast_nonneg, if_true, Int.toNat_natCast, wrap_up hi (by omega)]
      exact ih _ (hI.step (by simpa using hi) (by simp [cvReadMark, rd_T30, hi]))
    · intro ys hI
      apply Ev.succ
      simp only [laws_toReadMarkS.l0, Int.lt_irrefl, if_false]
      exact Ev.some (Filled.done (by simpa using hI))
  unfold laws_toReadMarkS.f
  have h3 : ((l.length : Int) : Int).toNat ≤ 17592186044416 := by omega
  simp only [Int.natCast_nonneg, if_true, h3]
  simpa using h

def cvWrite (x : S208) : S132 := ⟨x.f0, x.f1⟩
theorem ev_toWriteS (l : List S208) (hl : l.length ≤ 1048576) : Ev (fun k => laws_toWriteS.f k l) (l.map cvWrite) := by
  have h : Ev (fun k => laws_toWriteS.l0 k l (List.replicate l.length z132) ((0 : Nat) : Int)) (l.map cvWrite) := by
    refine ev_up (σ := List S132) (fun ys i k => laws_toWriteS.l0 k l ys (i : Int)) l.length (fun ys i => Filled (l.map cvWrite) ys i) (fun _ _ => l.map cvWrite) ?_ ?_ (List.replicate l.length z132) 0 (Nat.zero_le _) (Filled.start _ _ (by simp))
    · intro ys i hi hI ih
      apply Ev.succ
      have h1 : (i : Int) < (l.length : Int) := by omega
      have h2 : (i : Int) < (ys.length : Int) := by have := hI.1; simp at this; omega
      simp only [laws_toWriteS.l0, laws_toWrite.f, Option.bind_some, h1, h2, Int.natCast_nonneg, if_true, Int.toNat_natCast, wrap_up hi (by omega)]
      exact ih _ (hI.step (by simpa using hi) (by simp [cvWrite, rd_T208, hi]))
    · intro ys hI
      apply Ev.succ
      simp only [laws_toWriteS.l0, Int.lt_irrefl, if_false]
      exact Ev.some (Filled.done (by simpa using hI))
  unfold laws_toWriteS.f
  have h3 : ((l.length : Int) : Int).toNat ≤ 17592186044416 := by omega
  simp only [Int.natCast_nonneg, if_true, h3]
  simpa using h

theorem ev_eqReadMarkS (l : List S32) (hl : l.length ≤ 9223372036854775807) : Ev (fun k => laws_eqReadMarkS.f k l l) true := by
  have h : Ev (fun k => laws_eqReadMarkS.l0 k l l ((0 : Nat) : Int)) true := by
    refine ev_up (σ := Unit) (fun _ i k => laws_eqReadMarkS.l0 k l l (i : Int)) l.length (fun _ _ => True) (fun _ _ => true) ?_ ?_ () 0 (Nat.zero_le _) trivial
    · intro ys i hi hI ih
      apply Ev.succ
      have h1 : (i : Int) < (l.length : Int) := by omega
      simp only [laws_eqReadMarkS.l0, laws_eqReadMark.f, Option.bind_some, h1, Int.natCast_nonneg, if_true, wrap_up hi hl]
      exact ih () trivial
    · intro ys hI
      apply Ev.succ
      simp only [laws_eqReadMarkS.l0, Int.lt_irrefl, if_false]
      exact Ev.now _
  unfold laws_eqReadMarkS.f
  simp only [if_true]
  exact h

theorem ev_eqWriteS (l : List S132) (hl : l.length ≤ 9223372036854775807) : Ev (fun k => laws_eqWriteS.f k l l) true := by
  have h : Ev (fun k => laws_eqWriteS.l0 k l l ((0 : Nat) : Int)) true := by
    refine ev_up (σ := Unit) (fun _ i k => laws_eqWriteS.l0 k l l (i : Int)) l.length (fun _ _ => True) (fun _ _ => true) ?_ ?_ () 0 (Nat.zero_le _) trivial
    · intro ys i hi hI ih
      apply Ev.succ
      have h1 : (i : Int) < (l.length : Int) := by omega
      simp only [laws_eqWriteS.l0, laws_eqWrite.f, Option.bind_some, h1, Int.natCast_nonneg, if_true, wrap_up hi hl]
      exact ih () trivial
    · intro ys hI
      apply Ev.succ
      simp only [laws_eqWriteS.l0, Int.lt_irrefl, if_false]
      exact Ev.now _
  unfold laws_eqWriteS.f
  simp only [if_true]
  exact h

def fit_Entry (x : S124) : Prop := x.f2.length ≤ 1048576 ∧ x.f3.length ≤ 1048576
def lim_Entry (x : S124) : Prop := x.f2.length ≤ 9223372036854775807 ∧ x.f3.length ≤ 9223372036854775807
def fitd_Entry (x : S126) : Prop := x.f2.length ≤ 1048576 ∧ x.f3.length ≤ 1048576
theorem sz_Entry (x : S124) (a : Int) (h0 : 0 ≤ a) (h1 : a ≤ 1048576) (hg : lim_Entry x) : ∃ r, Ev (fun k => laws_szEntry.f x.f0 x.f1 x.f2 x.f3 a) r ∧ r ≤ a ∧ (0 ≤ r → fit_Entry x) := by
  unfold lim_Entry at hg
  unfold laws_szEntry.f fit_Entry
  obtain ⟨r0, e0, u0, f0⟩ := szx_ReadMark x.f2 a h0 h1 hg.1
  by_cases c0 : r0 < 0
  · exact ⟨-1, Ev.bind e0 (by simp only [c0, if_true]; exact Ev.now _), by omega, fun h => absurd h (by omega)⟩
  obtain ⟨r1, e1, u1, f1⟩ := szx_Write x.f3 r0 (by omega) (by omega) hg.2
  by_cases c1 : r1 < 0
  · exact ⟨-1, Ev.bind e0 (by simp only [c0, if_false]; exact Ev.bind e1 (by simp only [c1, if_true]; exact Ev.now _)), by omega, fun h => absurd h (by omega)⟩
  exact ⟨r1, Ev.bind e0 (by simp only [c0, if_false]; exact Ev.bind e1 (by simp only [c1, if_false]; exact Ev.now _)), by omega, fun _ => ⟨f0 (by omega), f1 (by omega)⟩⟩

theorem sz_EntryS (l : List S124) (a : Int) (h0 : 0 ≤ a) (h1 : a ≤ 1048576) (hl : l.length ≤ 9223372036854775807) (hg : ∀ e ∈ l, lim_Entry e) : ∃ r, Ev (fun k => laws_szEntryS.f k l a) r ∧ r ≤ a ∧ (0 ≤ r → (l.length ≤ 1048576 ∧ ∀ e ∈ l, fit_Entry e)) := by
  unfold laws_szEntryS.f
  rw [wrap_in (by omega) (by omega)]
  by_cases h : a - (l.length : Int) < 0
  · simp only [h, if_true]; exact ⟨-1, Ev.now _, by omega, fun h => absurd h (by omega)⟩
  simp only [h, if_false]
  refine ev_to (σ := Int) (fun s i k => laws_szEntryS.l0 k l s (i : Int)) l.length (fun s i => 0 ≤ s ∧ s ≤ a ∧ ∀ j (hj : j < l.length), j < i → fit_Entry l[j]) (fun r => r ≤ a ∧ (0 ≤ r → (l.length ≤ 1048576 ∧ ∀ e ∈ l, fit_Entry e))) ?_ ?_ (a - (l.length : Int)) 0 (Nat.zero_le _) ⟨by omega, by omega, fun j hj h => absurd h (by omega)⟩
  · intro s i hi ⟨hs, hsa, hI⟩ ih
    have h2 : (i : Int) < (l.length : Int) := by omega
    have hrd : rd_T124 l (i : Int) = l[i] := by simp [rd_T124, hi]
    obtain ⟨r, e, hr, hf⟩ := sz_Entry (rd_T124 l (i : Int)) s hs (by omega) (hg _ (by rw [hrd]; exact List.getElem_mem hi))
    by_cases c : r < 0
    · refine ⟨-1, Ev.succ ?_, by omega, fun h => absurd h (by omega)⟩
      simp only [laws_szEntryS.l0, h2, Int.natCast_nonneg, if_true]
      exact Ev.bind e (by simp only [c, if_true]; exact Ev.now _)
    · obtain ⟨r', e', h'⟩ := ih r ⟨by omega, by omega, fun j hj hji => if hh : j < i then hI j hj hh else by obtain rfl : j = i := by omega
                                                                                                             rw [← hrd]; exact hf (by omega)⟩
      refine ⟨r', Ev.succ ?_, h'⟩
      simp only [laws_szEntryS.l0, h2, Int.natCast_nonneg, if_true]
      exact Ev.bind e (by simp only [c, if_false, wrap_up hi (by omega)]; exact e')
  · intro s ⟨hs, hsa, hI⟩
    refine ⟨s, Ev.succ ?_, hsa, fun _ => ⟨by omega, fun e he => ?_⟩⟩
    · simp only [laws_szEntryS.l0, Int.lt_irrefl, if_false]; exact Ev.now _
    · obtain ⟨j, hj, rfl⟩ := List.getElem_of_mem he
      exact hI j hj hj

def cvEntry (x : S124) : S126 := ⟨x.f0, x.f1, x.f2.map cvReadMark, x.f3.map cvWrite⟩
theorem fitd_cvEntry (x : S124) (h : fit_Entry x) : fitd_Entry (cvEntry x) := by
  simpa [fit_Entry, fitd_Entry, cvEntry] using h

theorem ev_toEntry (x : S124) (h : fit_Entry x) : Ev (fun k => laws_toEntry.f k x.f0 x.f1 x.f2 x.f3) (x.f0, x.f1, x.f2.map cvReadMark, x.f3.map cvWrite) := by
  unfold fit_Entry at h
  unfold laws_toEntry.f
  exact Ev.bind (ev_toReadMarkS x.f2 h.1) (Ev.bind (ev_toWriteS x.f3 h.2) (Ev.now _))

theorem ev_toEntryS (l : List S124) (h : l.length ≤ 1048576 ∧ ∀ e ∈ l, fit_Entry e) : Ev (fun k => laws_toEntryS.f k l) (l.map cvEntry) := by
  have hl := h.1
  have hh : Ev (fun k => laws_toEntryS.l0 k l (List.replicate l.length z126) ((0 : Nat) : Int)) (l.map cvEntry) := by
    refine ev_up (σ := List S126) (fun ys i k => laws_toEntryS.l0 k l ys (i : Int)) l.length (fun ys i => Filled (l.map cvEntry) ys i) (fun _ _ => l.map cvEntry) ?_ ?_ (List.replicate l.length z126) 0 (Nat.zero_le _) (Filled.start _ _ (by simp))
    · intro ys i hi hI ih
      apply Ev.succ
      have h1 : (i : Int) < (l.length : Int) := by omega
      have h2 : (i : Int) < (ys.length : Int) := by have := hI.1; simp at this; omega
      have hrd : rd_T124 l (i : Int) = l[i] := by simp [rd_T124, hi]
      simp only [laws_toEntryS.l0, h1, Int.natCast_nonneg, if_true]
      refine Ev.bind (ev_toEntry _ (by rw [hrd]; exact h.2 _ (List.getElem_mem hi))) ?_
      simp only [h2, if_true, Int.toNat_natCast, wrap_up hi (by omega)]
      exact ih _ (hI.step (by simpa using hi) (by simp [cvEntry, hrd]))
    · intro ys hI
      apply Ev.succ
      simp only [laws_toEntryS.l0, Int.lt_irrefl, if_false]
      exact Ev.some (Filled.done (by simpa using hI))
  unfold laws_toEntryS.f
  have h3 : ((l.length : Int) : Int).toNat ≤ 4398046511104 := by omega
  simp only [Int.natCast_nonneg, if_true, h3]
  simpa using hh
theorem fitds_cvEntry (l : List S124) (h : l.length ≤ 1048576 ∧ ∀ e ∈ l, fit_Entry e) : (l.map cvEntry).length ≤ 1048576 ∧ ∀ e ∈ l.map cvEntry, fitd_Entry e := by
  refine ⟨by simpa using h.1, fun e he => ?_⟩
  obtain ⟨x, hx, rfl⟩ := List.mem_map.mp he
  exact fitd_cvEntry x (h.2 x hx)

theorem ev_eqEntry (x : S126) (h : fitd_Entry x) : Ev (fun k => laws_eqEntry.f k x.f0 x.f1 x.f2 x.f3 x.f0 x.f1 x.f2 x.f3) true := by
  unfold fitd_Entry at h
  unfold laws_eqEntry.f
  simp only [if_true]
  exact Ev.bind (ev_eqReadMarkS x.f2 (by have := h.1; omega)) (by simp only [if_true]; exact Ev.bind (ev_eqWriteS x.f3 (by have := h.2; omega)) (by simp only [if_true]; exact Ev.now _))

theorem ev_eqEntryS (l : List S126) (h : l.length ≤ 1048576 ∧ ∀ e ∈ l, fitd_Entry e) : Ev (fun k => laws_eqEntryS.f k l l) true := by
  have hl := h.1
  have hh : Ev (fun k => laws_eqEntryS.l0 k l l ((0 : Nat) : Int)) true := by
    refine ev_up (σ := Unit) (fun _ i k => laws_eqEntryS.l0 k l l (i : Int)) l.length (fun _ _ => True) (fun _ _ => true) ?_ ?_ () 0 (Nat.zero_le _) trivial
    · intro ys i hi hI ih
      apply Ev.succ
      have h1 : (i : Int) < (l.length : Int) := by omega
      have hrd : rd_T126 l (i : Int) = l[i] := by simp [rd_T126, hi]
      simp only [laws_eqEntryS.l0, h1, Int.natCast_nonneg, if_true]
      refine Ev.bind (ev_eqEntry _ (by rw [hrd]; exact h.2 _ (List.getElem_mem hi))) ?_
      simp only [if_true, wrap_up hi (by omega)]
      exact ih () trivial
    · intro ys hI
      apply Ev.succ
      simp only [laws_eqEntryS.l0, Int.lt_irrefl, if_false]
      exact Ev.now _
  unfold laws_eqEntryS.f
  simp only [if_true]
  exact hh


theorem l1In_eq (a b c : Int) : spec_l1In.f a b c = some (decide (b ≤ a) && decide (a ≤ c)) := by
  by_cases h : b ≤ a <;> simp [spec_l1In.f, h]
theorem in_eq (a b c : Int) : impl_in.f a b c = some (decide (b ≤ a) && decide (a ≤ c)) := by
  by_cases h : b ≤ a <;> simp [impl_in.f, h]
theorem compare_eq (a b : Int) : cmp_Compare_int.f a b = some (if a < b then -1 else if a > b then 1 else 0) := by
  by_cases h : a < b <;> by_cases h' : a > b <;> simp [cmp_Compare_int.f, cmp_isNaN_int.f, h, h']
theorem ev_or (x y : Int) : Ev (fun k => cmp_Or_int.f k [x, y]) (if x = 0 then y else x) := by
  show Ev (fun k => cmp_Or_int.l0 k 0 [x, y] (2 : Int) 0) _
  apply Ev.succ
  by_cases hx : x = 0
  · simp only [cmp_Or_int.l0, hx, rd, wrap64, if_true]
    apply Ev.succ
    by_cases hy : y = 0
    · subst hy
      simp [cmp_Or_int.l0, rd, wrap64]
      apply Ev.succ
      simp [cmp_Or_int.l0]; exact Ev.now _
    · simp [cmp_Or_int.l0, rd, wrap64, hy]; exact Ev.now _
  · simp [cmp_Or_int.l0, rd, hx]; exact Ev.now _
theorem ev_cmp (a b c d : Int) : ∃ v, Ev (fun k => impl_compareMarks.f k a b c d) v ∧ spec_l5Before.f a b c d = some (decide (v < 0)) := by
  refine ⟨if (if a < c then -1 else if a > c then 1 else 0) = (0 : Int) then (if b < d then -1 else if b > d then 1 else 0) else (if a < c then -1 else if a > c then 1 else 0), ?_, ?_⟩
  · unfold impl_compareMarks.f
    simp only [compare_eq, Option.bind_some]
    exact Ev.bind (ev_or _ _) (Ev.now _)
  · unfold spec_l5Before.f
    by_cases h1 : a < c
    · simp [h1]
    · by_cases h2 : a > c
      · have h3 : ¬ a = c := by omega
        simp [h1, h2, h3]
      · have h3 : a = c := by omega
        by_cases h4 : b < d
        · simp [h3, h4]
        · by_cases h5 : b > d <;> simp [h3, h4, h5]
theorem both_reads (a0 a1 a2 a3 a4 a5 a6 : Int) (rs : List S32) (ws : List S132) (hl : rs.length ≤ 1048576) (r : Bool) (hr : Ev (fun k => spec_IsValidTransaction.l1 k 0 a0 a1 a2 a3 a4 a5 a6 rs ws) r) :
    ∃ x y, Ev (fun k => impl_areReads.f k rs) x ∧ Ev (fun k => spec_IsValidTransaction.l0 k ((0 : Nat) : Int) a0 a1 a2 a3 a4 a5 a6 rs ws) y ∧ ∃ rb : Bool, x = (rb && decide ((rs.length : Int) ≤ 60)) ∧ y = (rb && r) := by
  refine ev_two (σ := Unit) (τ := Unit) (fun _ i k => impl_areReads.l0 k rs rs (rs.length : Int) (i : Int)) (fun _ i k => spec_IsValidTransaction.l0 k (i : Int) a0 a1 a2 a3 a4 a5 a6 rs ws) rs.length (fun _ _ _ => True) (fun x y => ∃ rb : Bool, x = (rb && decide ((rs.length : Int) ≤ 60)) ∧ y = (rb && r)) ?_ ?_ () () 0 (Nat.zero_le _) trivial
  · intro _ _ i hi _ ih
    have h1 : (i : Int) < (rs.length : Int) := by omega
    have e0 := wrap_up hi (by omega)
    obtain ⟨x, y, hx, hy, rb, rfl, rfl⟩ := ih () () trivial
    have iT : Ev (fun k => impl_areReads.j1 k rs (i : Int) rs (rs.length : Int) true) false := Ev.succ (by simp only [impl_areReads.j1, if_true]; exact Ev.now _)
    have sT : Ev (fun k => spec_IsValidTransaction.j1 k (i : Int) true a0 a1 a2 a3 a4 a5 a6 rs ws) false := Ev.succ (by simp only [spec_IsValidTransaction.j1, if_true]; exact Ev.now _)
    have iF : Ev (fun k => impl_areReads.j1 k rs (i : Int) rs (rs.length : Int) false) (rb && decide ((rs.length : Int) ≤ 60)) := Ev.succ (by simp only [impl_areReads.j1, Bool.false_eq_true, if_false, e0]; exact hx)
    have sF : Ev (fun k => spec_IsValidTransaction.j1 k (i : Int) false a0 a1 a2 a3 a4 a5 a6 rs ws) (rb && r) := Ev.succ (by simp only [spec_IsValidTransaction.j1, Bool.false_eq_true, if_false, e0]; exact hy)
    by_cases ck : (decide (0 ≤ (rd_T32 rs (i : Int)).f0) && decide ((rd_T32 rs (i : Int)).f0 ≤ 5)) = true
    rotate_left 1
    · refine ⟨false, false, Ev.succ ?_, Ev.succ ?_, false, by simp, by simp⟩
      · simp only [impl_areReads.l0, impl_isKey.f, in_eq, h1, ck, Int.natCast_nonneg, if_true, if_false, Option.bind_some]; exact iT
      · simp only [spec_IsValidTransaction.l0, l1In_eq, h1, ck, Int.natCast_nonneg, if_true, if_false, Option.bind_some]; exact sT
    by_cases cc : (decide (0 ≤ (rd_T32 rs (i : Int)).f1) && decide ((rd_T32 rs (i : Int)).f1 ≤ 999)) = true
    rotate_left 1
    · refine ⟨false, false, Ev.succ ?_, Ev.succ ?_, false, by simp, by simp⟩
      · simp only [impl_areReads.l0, impl_isKey.f, in_eq, h1, ck, cc, Int.natCast_nonneg, if_true, if_false, Option.bind_some]; exact iT
      · simp only [spec_IsValidTransaction.l0, l1In_eq, h1, ck, cc, Int.natCast_nonneg, if_true, if_false, Option.bind_some]; exact sT
    by_cases h0 : 0 < i
    · have e1 : wrap64 ((i : Int) - 1) = ((i - 1 : Nat) : Int) := wrap_down h0 (by omega)
      have h2 : ((i - 1 : Nat) : Int) < (rs.length : Int) := by omega
      have h3 : (i : Int) > 0 := by omega
      obtain ⟨v, ev, hb⟩ := ev_cmp (rd_T32 rs ((i - 1 : Nat) : Int)).f0 (rd_T32 rs ((i - 1 : Nat) : Int)).f1 (rd_T32 rs (i : Int)).f0 (rd_T32 rs (i : Int)).f1
      by_cases hv : v < 0
      · have hv' : ¬ v ≥ 0 := by omega
        refine ⟨(rb && decide ((rs.length : Int) ≤ 60)), (rb && r), Ev.succ ?_, Ev.succ ?_, rb, rfl, rfl⟩
        · simp only [impl_areReads.l0, impl_isKey.f, in_eq, h1, h2, h3, e1, ck, cc, Int.natCast_nonneg, if_true, Option.bind_some]
          refine Ev.bind ev ?_
          simp only [hv', decide_false]; exact iF
        · simp only [spec_IsValidTransaction.l0, l1In_eq, hb, hv, h1, h2, h3, e1, ck, cc, Int.natCast_nonneg, if_true, Option.bind_some, decide_true, Bool.not_true]; exact sF
      · have hv' : v ≥ 0 := by omega
        refine ⟨false, false, Ev.succ ?_, Ev.succ ?_, false, by simp, by simp⟩
        · simp only [impl_areReads.l0, impl_isKey.f, in_eq, h1, h2, h3, e1, ck, cc, Int.natCast_nonneg, if_true, Option.bind_some]
          refine Ev.bind ev ?_
          simp only [hv', decide_true]; exact iT
        · simp only [spec_IsValidTransaction.l0, l1In_eq, hb, hv, h1, h2, h3, e1, ck, cc, Int.natCast_nonneg, if_true, Option.bind_some, decide_false, Bool.not_false]; exact sT
    · have h3 : ¬ (i : Int) > 0 := by omega
      refine ⟨(rb && decide ((rs.length : Int) ≤ 60)), (rb && r), Ev.succ ?_, Ev.succ ?_, rb, rfl, rfl⟩
      · simp only [impl_areReads.l0, impl_isKey.f, in_eq, h1, h3, ck, cc, Int.natCast_nonneg, if_true, if_false, Option.bind_some]; exact iF
      · simp only [spec_IsValidTransaction.l0, l1In_eq, h1, h3, ck, cc, Int.natCast_nonneg, if_true, if_false, Option.bind_some]; exact sF
  · intro _ _ _
    refine ⟨decide ((rs.length : Int) ≤ 60), r, Ev.succ ?_, Ev.succ ?_, true, (Bool.true_and _).symm, (Bool.true_and _).symm⟩
    · simp only [impl_areReads.l0, Int.lt_irrefl, if_false]; exact Ev.now _
    · simp only [spec_IsValidTransaction.l0, Int.lt_irrefl, if_false]; exact hr
def tailOf (a0 a1 a2 a3 a4 a5 a6 : Int) (n : Int) : Bool :=
  ((decide (1 ≤ a0) && decide (a0 ≤ 9)) && ((decide (1 ≤ a1) && decide (a1 ≤ 4)) && (decide (0 ≤ a3) && decide (a3 ≤ 999)))) &&
  ((decide (1 ≤ a2) && decide (a2 ≤ 3)) && ((decide (0 ≤ a4) && decide (a4 ≤ 999)) && ((decide (1 ≤ a5) && decide (a5 ≤ 1000)) && (((a2 == 2) == decide (a6 > 0)) && ((decide (0 ≤ a6) && decide (a6 ≤ 999)) && decide (n ≤ 60))))))
theorem both_writes (a0 a1 a2 a3 a4 a5 a6 : Int) (rs : List S32) (ws : List S132) (hl : ws.length ≤ 1048576) :
    ∃ x y, Ev (fun k => impl_areWrites.f k ws) x ∧ Ev (fun k => spec_IsValidTransaction.l1 k ((0 : Nat) : Int) a0 a1 a2 a3 a4 a5 a6 rs ws) y ∧ y = (x && tailOf a0 a1 a2 a3 a4 a5 a6 (rs.length : Int)) := by
  refine ev_two (σ := Unit) (τ := Unit) (fun _ i k => impl_areWrites.l0 k ws ws (ws.length : Int) (i : Int)) (fun _ i k => spec_IsValidTransaction.l1 k (i : Int) a0 a1 a2 a3 a4 a5 a6 rs ws) ws.length (fun _ _ _ => True) (fun x y => y = (x && tailOf a0 a1 a2 a3 a4 a5 a6 (rs.length : Int))) ?_ ?_ () () 0 (Nat.zero_le _) trivial
  · intro _ _ i hi _ ih
    have h1 : (i : Int) < (ws.length : Int) := by omega
    have e0 := wrap_up hi (by omega)
    obtain ⟨x, y, hx, hy, rfl⟩ := ih () () trivial
    have iT : Ev (fun k => impl_areWrites.j1 k ws (i : Int) ws (ws.length : Int) true) false := Ev.succ (by simp only [impl_areWrites.j1, if_true]; exact Ev.now _)
    have sT : Ev (fun k => spec_IsValidTransaction.j3 k (i : Int) true a0 a1 a2 a3 a4 a5 a6 rs ws) false := Ev.succ (by simp only [spec_IsValidTransaction.j3, if_true]; exact Ev.now _)
    have iF : Ev (fun k => impl_areWrites.j1 k ws (i : Int) ws (ws.length : Int) false) x := Ev.succ (by simp only [impl_areWrites.j1, Bool.false_eq_true, if_false, e0]; exact hx)
    have sF : Ev (fun k => spec_IsValidTransaction.j3 k (i : Int) false a0 a1 a2 a3 a4 a5 a6 rs ws) (x && tailOf a0 a1 a2 a3 a4 a5 a6 (rs.length : Int)) := Ev.succ (by simp only [spec_IsValidTransaction.j3, Bool.false_eq_true, if_false, e0]; exact hy)
    by_cases ck : (decide (0 ≤ (rd_T132 ws (i : Int)).f0) && decide ((rd_T132 ws (i : Int)).f0 ≤ 5)) = true
    rotate_left 1
    · refine ⟨false, false, Ev.succ ?_, Ev.succ ?_, by simp⟩
      · simp only [impl_areWrites.l0, impl_isKey.f, in_eq, h1, ck, Int.natCast_nonneg, if_true, if_false, Option.bind_some]; exact iT
      · simp only [spec_IsValidTransaction.l1, l1In_eq, h1, ck, Int.natCast_nonneg, if_true, if_false, Option.bind_some]; exact sT
    by_cases cc : (decide (-1 ≤ (rd_T132 ws (i : Int)).f1) && decide ((rd_T132 ws (i : Int)).f1 ≤ 99)) = true
    rotate_left 1
    · refine ⟨false, false, Ev.succ ?_, Ev.succ ?_, by simp⟩
      · simp only [impl_areWrites.l0, impl_isKey.f, impl_isValue.f, in_eq, h1, ck, cc, Int.natCast_nonneg, if_true, if_false, Option.bind_some]; exact iT
      · simp only [spec_IsValidTransaction.l1, l1In_eq, h1, ck, cc, Int.natCast_nonneg, if_true, if_false, Option.bind_some]; exact sT
    by_cases h0 : 0 < i
    · have e1 : wrap64 ((i : Int) - 1) = ((i - 1 : Nat) : Int) := wrap_down h0 (by omega)
      have h2 : ((i - 1 : Nat) : Int) < (ws.length : Int) := by omega
      have h3 : (i : Int) > 0 := by omega
      by_cases hv : (rd_T132 ws ((i - 1 : Nat) : Int)).f0 ≥ (rd_T132 ws (i : Int)).f0
      · refine ⟨false, false, Ev.succ ?_, Ev.succ ?_, by simp⟩
        · simp only [impl_areWrites.l0, impl_isKey.f, impl_isValue.f, in_eq, h1, h2, h3, e1, hv, ck, cc, Int.natCast_nonneg, if_true, Option.bind_some, decide_true]; exact iT
        · simp only [spec_IsValidTransaction.l1, l1In_eq, h1, h2, h3, e1, hv, ck, cc, Int.natCast_nonneg, if_true, Option.bind_some, decide_true]; exact sT
      · refine ⟨x, (x && tailOf a0 a1 a2 a3 a4 a5 a6 (rs.length : Int)), Ev.succ ?_, Ev.succ ?_, rfl⟩
        · simp only [impl_areWrites.l0, impl_isKey.f, impl_isValue.f, in_eq, h1, h2, h3, e1, hv, ck, cc, Int.natCast_nonneg, if_true, Option.bind_some, decide_false]; exact iF
        · simp only [spec_IsValidTransaction.l1, l1In_eq, h1, h2, h3, e1, hv, ck, cc, Int.natCast_nonneg, if_true, Option.bind_some, decide_false]; exact sF
    · have h3 : ¬ (i : Int) > 0 := by omega
      refine ⟨x, (x && tailOf a0 a1 a2 a3 a4 a5 a6 (rs.length : Int)), Ev.succ ?_, Ev.succ ?_, rfl⟩
      · simp only [impl_areWrites.l0, impl_isKey.f, impl_isValue.f, in_eq, h1, h3, ck, cc, Int.natCast_nonneg, if_true, if_false, Option.bind_some]; exact iF
      · simp only [spec_IsValidTransaction.l1, l1In_eq, h1, h3, ck, cc, Int.natCast_nonneg, if_true, if_false, Option.bind_some]; exact sF
  · intro _ _ _
    refine ⟨true, tailOf a0 a1 a2 a3 a4 a5 a6 (rs.length : Int), Ev.succ ?_, Ev.succ ?_, (Bool.true_and _).symm⟩
    · simp only [impl_areWrites.l0, Int.lt_irrefl, if_false]; exact Ev.now _
    · have jT : Ev (fun k => spec_IsValidTransaction.j4 k true a0 a1 a2 a3 a4 a5 a6 rs ws) false := Ev.succ (by simp only [spec_IsValidTransaction.j4, if_true]; exact Ev.now _)
      have jF : Ev (fun k => spec_IsValidTransaction.j4 k false a0 a1 a2 a3 a4 a5 a6 rs ws) ((decide (1 ≤ a2) && decide (a2 ≤ 3)) && ((decide (0 ≤ a4) && decide (a4 ≤ 999)) && ((decide (1 ≤ a5) && decide (a5 ≤ 1000)) && (((a2 == 2) == decide (a6 > 0)) && ((decide (0 ≤ a6) && decide (a6 ≤ 999)) && decide ((rs.length : Int) ≤ 60)))))) := by
        apply Ev.succ
        simp only [spec_IsValidTransaction.j4, Bool.false_eq_true, if_false, l1In_eq, Option.bind_some]
        generalize (decide (1 ≤ a2) && decide (a2 ≤ 3)) = b2
        generalize (decide (0 ≤ a4) && decide (a4 ≤ 999)) = b4
        generalize (decide (1 ≤ a5) && decide (a5 ≤ 1000)) = b5
        generalize ((a2 == 2) == decide (a6 > 0)) = b6
        generalize (decide (0 ≤ a6) && decide (a6 ≤ 999)) = b7
        cases b2 <;> cases b4 <;> cases b5 <;> cases b6 <;> cases b7 <;> simp only [Bool.false_eq_true, if_false, if_true, Bool.false_and, Bool.true_and] <;> exact Ev.now _
      simp only [spec_IsValidTransaction.l1, Int.lt_irrefl, if_false, l1In_eq, Option.bind_some]
      unfold tailOf
      revert jF
      generalize ((decide (1 ≤ a2) && decide (a2 ≤ 3)) && ((decide (0 ≤ a4) && decide (a4 ≤ 999)) && ((decide (1 ≤ a5) && decide (a5 ≤ 1000)) && (((a2 == 2) == decide (a6 > 0)) && ((decide (0 ≤ a6) && decide (a6 ≤ 999)) && decide ((rs.length : Int) ≤ 60)))))) = bt
      intro jF
      generalize (decide (1 ≤ a0) && decide (a0 ≤ 9)) = b0
      generalize (decide (1 ≤ a1) && decide (a1 ≤ 4)) = b1
      generalize (decide (0 ≤ a3) && decide (a3 ≤ 999)) = b3
      cases b0 <;> cases b1 <;> cases b3 <;> simp only [Bool.false_eq_true, if_false, if_true, Bool.false_and, Bool.true_and, Bool.not_true, Bool.not_false, Bool.and_false, Bool.and_true] <;> first | exact jT | exact jF
theorem both_WriterOf (l : List S126) (a b : Int) (hl : l.length ≤ 1048576) (hn : ∀ e ∈ l, fitd_Entry e) : ∃ r, Ev (fun k => spec_WriterOf.f k l a b) r ∧ Ev (fun k => impl_WriterOf.f k l a b) r ∧ True := by
  refine ev_both (σ := Unit) (τ := Unit) (fun _ i k => spec_WriterOf.l0 k l (i : Int) a b) (fun _ i k => impl_WriterOf.l0 k l (l.length : Int) (i : Int) a b) l.length (fun _ _ _ => True) (fun _ => True) ?_ ?_ () () 0 (Nat.zero_le _) trivial
  · intro _ _ i hi _ ih
    have h1 : (i : Int) < (l.length : Int) := by omega
    have e0 := wrap_up hi (by omega)
    obtain ⟨r, hs, ht, _⟩ := ih () () trivial
    have hrd : rd_T126 l (i : Int) = l[i] := by simp [rd_T126, hi]
    have hf := (hn _ (List.getElem_mem hi)).2
    rw [← hrd] at hf
    by_cases c : (rd_T126 l i).f1 = b
    · have h : ∃ r1 q, Ev (fun k => spec_WriterOf.l1 k l (i : Int) ((0 : Nat) : Int) a b) r1 ∧ Ev (fun k => impl_Write_209.l0 k (rd_T126 l i).f3 ((rd_T126 l i).f3.length : Int) ((0 : Nat) : Int) a) q ∧ ((q < 0 ∧ r1 = r) ∨ (0 ≤ q ∧ r1 = (rd_T126 l i).f0)) := by
        refine ev_two (σ := Unit) (τ := Unit) (fun _ j k => spec_WriterOf.l1 k l (i : Int) (j : Int) a b) (fun _ j k => impl_Write_209.l0 k (rd_T126 l i).f3 ((rd_T126 l i).f3.length : Int) (j : Int) a) (rd_T126 l i).f3.length (fun _ _ _ => True) (fun r1 q => ((q < 0 ∧ r1 = r) ∨ (0 ≤ q ∧ r1 = (rd_T126 l i).f0))) ?_ ?_ () () 0 (Nat.zero_le _) trivial
        · intro _ _ j hj _ ih2
          have h2 : (j : Int) < ((rd_T126 l i).f3.length : Int) := by omega
          have e1 := wrap_up hj (by omega)
          by_cases d : (rd_T132 (rd_T126 l i).f3 j).f0 = a
          · refine ⟨(rd_T126 l i).f0, (j : Int), Ev.succ ?_, Ev.succ ?_, .inr ⟨by omega, rfl⟩⟩ <;> (simp only [spec_WriterOf.l1, impl_Write_209.l0, impl_Entry_writes_1.f, h1, h2, c, d, beq_self_eq_true, Int.natCast_nonneg, if_true, Option.bind_some]; exact Ev.now _)
          · obtain ⟨r1, q, hs1, ht1, hR⟩ := ih2 () () trivial
            have db : ((rd_T132 (rd_T126 l i).f3 j).f0 == a) = false := by simpa using d
            refine ⟨r1, q, Ev.succ ?_, Ev.succ ?_, hR⟩ <;> (simp only [spec_WriterOf.l1, impl_Write_209.l0, impl_Entry_writes_1.f, h1, h2, c, d, db, e1, Int.natCast_nonneg, if_true, if_false, Option.bind_some, Bool.false_eq_true]; assumption)
        · intro _ _ _
          refine ⟨r, -1, Ev.succ ?_, Ev.succ ?_, .inl ⟨by omega, rfl⟩⟩
          · simp only [spec_WriterOf.l1, h1, e0, Int.natCast_nonneg, Int.lt_irrefl, if_true, if_false]; exact hs
          · simp only [impl_Write_209.l0, Int.lt_irrefl, if_false]; exact Ev.now _
      obtain ⟨r1, q, g1, g2, hR⟩ := h
      refine ⟨r1, Ev.succ ?_, Ev.succ ?_, trivial⟩
      · simp only [spec_WriterOf.l0, h1, if_true]; exact g1
      · simp only [impl_WriterOf.l0, h1, c, Int.natCast_nonneg, if_true, impl_Entry_writes.f, impl_Write_164.f, impl_Write_209.f]
        refine Ev.bind (Ev.bind (Ev.bind g2 (Ev.now _)) (Ev.now _)) ?_
        rcases hR with ⟨hq, rfl⟩ | ⟨hq, rfl⟩
        · have : ¬ q ≥ 0 := by omega
          simp only [this, decide_false, Bool.false_eq_true, if_false, e0]; exact ht
        · have : q ≥ 0 := by omega
          simp only [this, decide_true, if_true]; exact Ev.now _
    · have h : Ev (fun k => spec_WriterOf.l1 k l (i : Int) ((0 : Nat) : Int) a b) r := by
        refine ev_up (σ := Unit) (fun _ j k => spec_WriterOf.l1 k l (i : Int) (j : Int) a b) (rd_T126 l i).f3.length (fun _ _ => True) (fun _ _ => r) ?_ ?_ () 0 (Nat.zero_le _) trivial
        · intro _ j hj _ ih2
          have h2 : (j : Int) < ((rd_T126 l i).f3.length : Int) := by omega
          have e1 := wrap_up hj (by omega)
          apply Ev.succ
          simp only [spec_WriterOf.l1, h1, h2, c, e1, Int.natCast_nonneg, if_true, if_false]
          exact ih2 () trivial
        · intro _ _
          apply Ev.succ
          simp only [spec_WriterOf.l1, h1, e0, Int.natCast_nonneg, Int.lt_irrefl, if_true, if_false]; exact hs
      refine ⟨r, Ev.succ ?_, Ev.succ ?_, trivial⟩
      · simp only [spec_WriterOf.l0, h1, if_true]; exact h
      · simp only [impl_WriterOf.l0, h1, c, e0, Int.natCast_nonneg, if_true, if_false]; exact ht
  · intro _ _ _
    refine ⟨0, Ev.succ ?_, Ev.succ ?_, trivial⟩ <;> (simp only [spec_WriterOf.l0, impl_WriterOf.l0, Int.lt_irrefl, if_false]; exact Ev.now _)
theorem both_isEntry (a0 a1 : Int) (rs : List S32) (ws : List S132) (hl : rs.length ≤ 1048576) (hw : ws.length ≤ 1048576) :
    ∃ b : Bool, Ev (fun k => spec_IsValidTransaction.f k a0 1 2 0 0 1000 a1 rs ws) b ∧ Ev (fun k => impl_isEntry.f k a0 a1 rs ws) b := by
  obtain ⟨wb, y1, hwi, hws, rfl⟩ := both_writes a0 1 2 0 0 1000 a1 rs ws hw
  obtain ⟨x, y, hri, hrs, rb, rfl, rfl⟩ := both_reads a0 1 2 0 0 1000 a1 rs ws hl _ hws
  refine ⟨_, hrs, ?_⟩
  have heq : (rb && (wb && tailOf a0 1 2 0 0 1000 a1 (rs.length : Int))) = ((decide (1 ≤ a0) && decide (a0 ≤ 9)) && ((decide (1 ≤ a1) && decide (a1 ≤ 999)) && ((rb && decide ((rs.length : Int) ≤ 60)) && wb))) := by
    have hst : ((((2 : Int) == 2) == decide (a1 > 0)) && (decide (0 ≤ a1) && decide (a1 ≤ 999))) = (decide (1 ≤ a1) && decide (a1 ≤ 999)) := by
      by_cases d1 : 1 ≤ a1
      · have d0 : a1 > 0 := by omega
        have d3 : 0 ≤ a1 := by omega
        simp [d1, d0, d3]
      · have d0 : ¬ a1 > 0 := by omega
        simp [d1, d0]
    have hx : tailOf a0 1 2 0 0 1000 a1 (rs.length : Int) = ((decide (1 ≤ a0) && decide (a0 ≤ 9)) && ((decide (1 ≤ a1) && decide (a1 ≤ 999)) && decide ((rs.length : Int) ≤ 60))) := by
      rw [← hst]
      unfold tailOf
      simp [Bool.and_assoc]
    rw [hx]
    cases rb <;> cases wb <;> simp
  rw [heq]
  unfold impl_isEntry.f
  simp only [impl_isID.f, impl_IsStamp.f, in_eq, Option.bind_some]
  cases (decide (1 ≤ a0) && decide (a0 ≤ 9))
  · simp only [Bool.false_eq_true, if_false, Bool.false_and]; exact Ev.now _
  simp only [if_true, Bool.true_and]
  cases (decide (1 ≤ a1) && decide (a1 ≤ 999))
  · simp only [Bool.false_eq_true, if_false, Bool.false_and]; exact Ev.now _
  simp only [if_true, Bool.true_and]
  refine Ev.bind hri ?_
  cases (rb && decide ((rs.length : Int) ≤ 60))
  · simp only [Bool.false_eq_true, if_false, Bool.false_and]; exact Ev.now _
  · simp only [if_true, Bool.true_and]; exact Ev.bind hwi (Ev.now _)
theorem find_both (l : List S126) (hl : l.length ≤ 1048576) (i : Nat) (hi : i < l.length) :
    ∃ r q, Ev (fun k => spec_FindEntry.f k (l.take i) (rd_T126 l (i : Int)).f0) r ∧ Ev (fun k => impl_FindEntry.f k l (rd_T126 l (i : Int)).f0) q ∧ decide (r ≥ 0) = (q != (i : Int)) := by
  have hlen : (l.take i).length = i := by rw [List.length_take]; omega
  have h : ∃ r q, Ev (fun k => spec_FindEntry.l0 k (l.take i) (rd_T126 l (i : Int)).f0 ((0 : Nat) : Int)) r ∧ Ev (fun k => impl_Entry.l0 k l (l.length : Int) ((0 : Nat) : Int) (rd_T126 l (i : Int)).f0) q ∧ decide (r ≥ 0) = (q != (i : Int)) := by
    refine ev_two (σ := Unit) (τ := Unit) (fun _ j k => spec_FindEntry.l0 k (l.take i) (rd_T126 l (i : Int)).f0 (j : Int)) (fun _ j k => impl_Entry.l0 k l (l.length : Int) (j : Int) (rd_T126 l (i : Int)).f0) i (fun _ _ _ => True) (fun r q => decide (r ≥ 0) = (q != (i : Int))) ?_ ?_ () () 0 (Nat.zero_le _) trivial
    · intro _ _ j hj _ ih
      have h1 : (j : Int) < (l.length : Int) := by omega
      have h2 : (j : Int) < ((l.take i).length : Int) := by rw [hlen]; omega
      have e0 := wrap_up (show j < l.length by omega) (by omega)
      have hrd : rd_T126 (l.take i) (j : Int) = rd_T126 l (j : Int) := by
        have g1 : j < l.length := by omega
        have g2 : j < (l.take i).length := by omega
        simp [rd_T126, g1, hj]
      by_cases c : (rd_T126 l (j : Int)).f0 = (rd_T126 l (i : Int)).f0
      · refine ⟨(j : Int), (j : Int), Ev.succ ?_, Ev.succ ?_, ?_⟩
        · simp only [spec_FindEntry.l0, h2, hrd, c, Int.natCast_nonneg, if_true]; exact Ev.now _
        · simp only [impl_Entry.l0, impl_FindEntry_1.f, h1, c, beq_self_eq_true, Int.natCast_nonneg, if_true, Option.bind_some]; exact Ev.now _
        · have d1 : (j : Int) ≥ 0 := by omega
          have d2 : (j : Int) ≠ (i : Int) := by omega
          simp [d1, d2]
      · obtain ⟨r, q, hs, ht, hR⟩ := ih () () trivial
        have cb : ((rd_T126 l (j : Int)).f0 == (rd_T126 l (i : Int)).f0) = false := by simpa using c
        refine ⟨r, q, Ev.succ ?_, Ev.succ ?_, hR⟩
        · simp only [spec_FindEntry.l0, h2, hrd, c, e0, Int.natCast_nonneg, if_true, if_false]; exact hs
        · simp only [impl_Entry.l0, impl_FindEntry_1.f, h1, cb, e0, Int.natCast_nonneg, if_true, if_false, Option.bind_some, Bool.false_eq_true]; exact ht
    · intro _ _ _
      have h1 : (i : Int) < (l.length : Int) := by omega
      have h2 : ¬ (i : Int) < ((l.take i).length : Int) := by rw [hlen]; omega
      refine ⟨-1, (i : Int), Ev.succ ?_, Ev.succ ?_, by simp⟩
      · simp only [spec_FindEntry.l0, h2, if_false]; exact Ev.now _
      · simp only [impl_Entry.l0, impl_FindEntry_1.f, h1, beq_self_eq_true, Int.natCast_nonneg, if_true, Option.bind_some]; exact Ev.now _
  obtain ⟨r, q, h1, h2, hR⟩ := h
  refine ⟨r, q, h1, ?_, hR⟩
  unfold impl_FindEntry.f impl_Entry.f
  exact Ev.bind h2 (Ev.now _)
theorem hist2 (l : List S126) (hl : l.length ≤ 1048576) (hn : ∀ e ∈ l, fitd_Entry e) : ∃ x y, Ev (fun k => spec_IsHistory.l1 k l ((0 : Nat) : Int)) x ∧ Ev (fun k => impl_IsHistory.l1 k l l (l.length : Int) ((0 : Nat) : Int)) y ∧ x = (y && decide ((l.length : Int) ≤ 9)) := by
  refine ev_two (σ := Unit) (τ := Unit) (fun _ i k => spec_IsHistory.l1 k l (i : Int)) (fun _ i k => impl_IsHistory.l1 k l l (l.length : Int) (i : Int)) l.length (fun _ _ _ => True) (fun x y => x = (y && decide ((l.length : Int) ≤ 9))) ?_ ?_ () () 0 (Nat.zero_le _) trivial
  · intro _ _ i hi _ ih
    have h1 : (i : Int) < (l.length : Int) := by omega
    have e0 := wrap_up hi (by omega)
    obtain ⟨x, y, hs, ht, hR⟩ := ih () () trivial
    have hrd : rd_T126 l (i : Int) = l[i] := by simp [rd_T126, hi]
    have hf := (hn _ (List.getElem_mem hi)).1
    rw [← hrd] at hf
    have inner : ∃ x y, Ev (fun k => spec_IsHistory.l2 k l (i : Int) ((0 : Nat) : Int)) x ∧ Ev (fun k => impl_IsHistory.l2 k l l (l.length : Int) (i : Int) (rd_T126 l (i : Int)).f2 ((rd_T126 l (i : Int)).f2.length : Int) ((0 : Nat) : Int) (rd_T126 l (i : Int)).f0 (rd_T126 l (i : Int)).f1 (rd_T126 l (i : Int)).f2 (rd_T126 l (i : Int)).f3) y ∧ x = (y && decide ((l.length : Int) ≤ 9)) := by
      refine ev_two (σ := Unit) (τ := Unit) (fun _ j k => spec_IsHistory.l2 k l (i : Int) (j : Int)) (fun _ j k => impl_IsHistory.l2 k l l (l.length : Int) (i : Int) (rd_T126 l (i : Int)).f2 ((rd_T126 l (i : Int)).f2.length : Int) (j : Int) (rd_T126 l (i : Int)).f0 (rd_T126 l (i : Int)).f1 (rd_T126 l (i : Int)).f2 (rd_T126 l (i : Int)).f3) (rd_T126 l (i : Int)).f2.length (fun _ _ _ => True) (fun x y => x = (y && decide ((l.length : Int) ≤ 9))) ?_ ?_ () () 0 (Nat.zero_le _) trivial
      · intro _ _ j hj _ ih2
        have h2 : (j : Int) < ((rd_T126 l (i : Int)).f2.length : Int) := by omega
        have e1 := wrap_up hj (by omega)
        obtain ⟨x2, y2, hs2, ht2, hR2⟩ := ih2 () () trivial
        obtain ⟨w, ew, ew', _⟩ := both_WriterOf l (rd_T32 (rd_T126 l (i : Int)).f2 (j : Int)).f0 (rd_T32 (rd_T126 l (i : Int)).f2 (j : Int)).f1 hl hn
        have jS : ∀ t : Bool, Ev (fun k => spec_IsHistory.j5 k l (i : Int) (j : Int) t) (!t && x2) := by
          intro t
          apply Ev.succ
          cases t
          · simp only [spec_IsHistory.j5, Bool.false_eq_true, if_false, e1, Bool.not_false, Bool.true_and]; exact hs2
          · simp only [spec_IsHistory.j5, if_true, Bool.not_true, Bool.false_and]; exact Ev.now _
        have jI : ∀ t : Bool, Ev (fun k => impl_IsHistory.j5 k l l (l.length : Int) (i : Int) (rd_T126 l (i : Int)).f2 ((rd_T126 l (i : Int)).f2.length : Int) (j : Int) t (rd_T126 l (i : Int)).f0 (rd_T126 l (i : Int)).f1 (rd_T126 l (i : Int)).f2 (rd_T126 l (i : Int)).f3) (!t && y2) := by
          intro t
          apply Ev.succ
          cases t
          · simp only [impl_IsHistory.j5, Bool.false_eq_true, if_false, e1, Bool.not_false, Bool.true_and]; exact ht2
          · simp only [impl_IsHistory.j5, if_true, Bool.not_true, Bool.false_and]; exact Ev.now _
        have fin : ∀ t : Bool, (!t && x2) = ((!t && y2) && decide ((l.length : Int) ≤ 9)) := by intro t; rw [hR2, Bool.and_assoc]
        by_cases c : w = (rd_T126 l (i : Int)).f0
        · refine ⟨_, _, Ev.succ ?_, Ev.succ ?_, fin true⟩
          · simp only [spec_IsHistory.l2, Int.natCast_nonneg, h1, h2, if_true]
            refine Ev.bind ew ?_
            simp only [c, if_true]; exact jS true
          · simp only [impl_IsHistory.l2, Int.natCast_nonneg, h2, if_true]
            refine Ev.bind ew' ?_
            simp only [c, if_true]; exact jI true
        by_cases d : (rd_T32 (rd_T126 l (i : Int)).f2 (j : Int)).f1 > 0
        · refine ⟨_, _, Ev.succ ?_, Ev.succ ?_, fin (w == 0)⟩
          · simp only [spec_IsHistory.l2, Int.natCast_nonneg, h1, h2, if_true]
            refine Ev.bind ew ?_
            simp only [c, d, if_true, if_false]; exact jS _
          · simp only [impl_IsHistory.l2, Int.natCast_nonneg, h2, if_true]
            refine Ev.bind ew' ?_
            simp only [c, d, if_true, if_false]; exact jI _
        · refine ⟨_, _, Ev.succ ?_, Ev.succ ?_, fin false⟩
          · simp only [spec_IsHistory.l2, Int.natCast_nonneg, h1, h2, if_true]
            refine Ev.bind ew ?_
            simp only [c, d, if_false]; exact jS false
          · simp only [impl_IsHistory.l2, Int.natCast_nonneg, h2, if_true]
            refine Ev.bind ew' ?_
            simp only [c, d, if_false]; exact jI false
      · intro _ _ _
        refine ⟨x, y, Ev.succ ?_, Ev.succ ?_, hR⟩
        · simp only [spec_IsHistory.l2, h1, e0, Int.natCast_nonneg, Int.lt_irrefl, if_true, if_false]; exact hs
        · simp only [impl_IsHistory.l2, e0, Int.lt_irrefl, if_false]; exact ht
    obtain ⟨x, y, g1, g2, g3⟩ := inner
    refine ⟨x, y, Ev.succ ?_, Ev.succ ?_, g3⟩
    · simp only [spec_IsHistory.l1, h1, if_true]; exact g1
    · simp only [impl_IsHistory.l1, h1, Int.natCast_nonneg, if_true]; exact g2
  · intro _ _ _
    refine ⟨decide ((l.length : Int) ≤ 9), true, Ev.succ ?_, Ev.succ ?_, by simp⟩
    · simp only [spec_IsHistory.l1, Int.lt_irrefl, if_false]; exact Ev.now _
    · simp only [impl_IsHistory.l1, Int.lt_irrefl, if_false]; exact Ev.now _
theorem hist1 (l : List S126) (hl : l.length ≤ 1048576) (hn : ∀ e ∈ l, fitd_Entry e) : ∃ x y, Ev (fun k => spec_IsHistory.l0 k l ((0 : Nat) : Int)) x ∧ Ev (fun k => impl_IsHistory.l0 k l l (l.length : Int) ((0 : Nat) : Int)) y ∧ x = (y && decide ((l.length : Int) ≤ 9)) := by
  obtain ⟨u, v, hu, hv, huv⟩ := hist2 l hl hn
  refine ev_two (σ := Unit) (τ := Unit) (fun _ i k => spec_IsHistory.l0 k l (i : Int)) (fun _ i k => impl_IsHistory.l0 k l l (l.length : Int) (i : Int)) l.length (fun _ _ _ => True) (fun x y => x = (y && decide ((l.length : Int) ≤ 9))) ?_ ?_ () () 0 (Nat.zero_le _) trivial
  · intro _ _ i hi _ ih
    have h1 : (i : Int) < (l.length : Int) := by omega
    have hil : (i : Int) ≤ (l.length : Int) := by omega
    have e0 := wrap_up hi (by omega)
    obtain ⟨x, y, hs, ht, hR⟩ := ih () () trivial
    have hrd : rd_T126 l (i : Int) = l[i] := by simp [rd_T126, hi]
    have hf := hn _ (List.getElem_mem hi)
    rw [← hrd] at hf
    obtain ⟨bv, eb, eb'⟩ := both_isEntry (rd_T126 l (i : Int)).f0 (rd_T126 l (i : Int)).f1 (rd_T126 l (i : Int)).f2 (rd_T126 l (i : Int)).f3 hf.1 hf.2
    obtain ⟨r, q, er, eq, hF⟩ := find_both l hl i hi
    have j2S : ∀ t : Bool, Ev (fun k => spec_IsHistory.j2 k l (i : Int) t) (!t && x) := by
      intro t
      apply Ev.succ
      cases t
      · simp only [spec_IsHistory.j2, Bool.false_eq_true, if_false, e0, Bool.not_false, Bool.true_and]; exact hs
      · simp only [spec_IsHistory.j2, if_true, Bool.not_true, Bool.false_and]; exact Ev.now _
    have j2I : ∀ t : Bool, Ev (fun k => impl_IsHistory.j2 k l (i : Int) l (l.length : Int) t) (!t && y) := by
      intro t
      apply Ev.succ
      cases t
      · simp only [impl_IsHistory.j2, Bool.false_eq_true, if_false, e0, Bool.not_false, Bool.true_and]; exact ht
      · simp only [impl_IsHistory.j2, if_true, Bool.not_true, Bool.false_and]; exact Ev.now _
    have j1 : ∃ t2 : Bool, (∀ t : Bool, Ev (fun k => spec_IsHistory.j1 k l (i : Int) t) (!t && (!t2 && x))) ∧ (∀ t : Bool, Ev (fun k => impl_IsHistory.j1 k l (i : Int) l (l.length : Int) t (rd_T126 l (i : Int)).f0 (rd_T126 l (i : Int)).f1 (rd_T126 l (i : Int)).f2 (rd_T126 l (i : Int)).f3) (!t && (!t2 && y))) := by
      by_cases c5 : 0 < i
      · have e1 : wrap64 ((i : Int) - 1) = ((i - 1 : Nat) : Int) := wrap_down c5 (by omega)
        have h2 : ((i - 1 : Nat) : Int) < (l.length : Int) := by omega
        have h3 : (i : Int) > 0 := by omega
        refine ⟨if (rd_T126 l ((i - 1 : Nat) : Int)).f1 > (rd_T126 l (i : Int)).f1 then true else if (rd_T126 l ((i - 1 : Nat) : Int)).f1 = (rd_T126 l (i : Int)).f1 then decide (((rd_T126 l (i : Int)).f3.length : Int) > 0) else false, ?_, ?_⟩
        · intro t
          apply Ev.succ
          cases t
          · by_cases d1 : (rd_T126 l ((i - 1 : Nat) : Int)).f1 > (rd_T126 l (i : Int)).f1
            · simp only [spec_IsHistory.j1, Bool.false_eq_true, if_false, if_true, h3, e1, h2, h1, d1, Int.natCast_nonneg, Bool.not_false, Bool.true_and]; exact j2S true
            · by_cases d2 : (rd_T126 l ((i - 1 : Nat) : Int)).f1 = (rd_T126 l (i : Int)).f1
              · have d1' : ¬ (rd_T126 l (i : Int)).f1 > (rd_T126 l (i : Int)).f1 := by omega
                simp only [spec_IsHistory.j1, Bool.false_eq_true, if_false, if_true, h3, e1, h2, h1, d1', d2, Int.natCast_nonneg, Bool.not_false, Bool.true_and]; exact j2S _
              · simp only [spec_IsHistory.j1, Bool.false_eq_true, if_false, if_true, h3, e1, h2, h1, d1, d2, Int.natCast_nonneg, Bool.not_false, Bool.true_and]; exact j2S false
          · simp only [spec_IsHistory.j1, if_true, Bool.not_true, Bool.false_and]; exact Ev.now _
        · intro t
          apply Ev.succ
          cases t
          · by_cases d1 : (rd_T126 l ((i - 1 : Nat) : Int)).f1 > (rd_T126 l (i : Int)).f1
            · have d1' : (rd_T126 l (i : Int)).f1 < (rd_T126 l ((i - 1 : Nat) : Int)).f1 := d1
              simp only [impl_IsHistory.j1, Bool.false_eq_true, if_false, if_true, h3, e1, h2, d1, d1', Int.natCast_nonneg, Bool.not_false, Bool.true_and]; exact j2I true
            · by_cases d2 : (rd_T126 l ((i - 1 : Nat) : Int)).f1 = (rd_T126 l (i : Int)).f1
              · have d1' : ¬ (rd_T126 l (i : Int)).f1 < (rd_T126 l (i : Int)).f1 := by omega
                have d1'' : ¬ (rd_T126 l (i : Int)).f1 > (rd_T126 l (i : Int)).f1 := by omega
                simp only [impl_IsHistory.j1, Bool.false_eq_true, if_false, if_true, h3, e1, h2, d1', d1'', d2, Int.natCast_nonneg, Bool.not_false, Bool.true_and]; exact j2I _
              · have d1' : ¬ (rd_T126 l (i : Int)).f1 < (rd_T126 l ((i - 1 : Nat) : Int)).f1 := by omega
                have d2' : ¬ (rd_T126 l (i : Int)).f1 = (rd_T126 l ((i - 1 : Nat) : Int)).f1 := fun e => d2 e.symm
                simp only [impl_IsHistory.j1, Bool.false_eq_true, if_false, if_true, h3, e1, h2, d1, d1', d2, d2', Int.natCast_nonneg, Bool.not_false, Bool.true_and]; exact j2I false
          · simp only [impl_IsHistory.j1, if_true, Bool.not_true, Bool.false_and]; exact Ev.now _
      · have h3 : ¬ ((i : Int) > 0) := by omega
        refine ⟨false, ?_, ?_⟩
        · intro t
          apply Ev.succ
          cases t
          · rw [show (!false && (!false && x)) = x from by simp]
            have := j2S false
            simp only [spec_IsHistory.j1, Bool.false_eq_true, if_false, h3]
            simpa using this
          · simp only [spec_IsHistory.j1, if_true, Bool.not_true, Bool.false_and]; exact Ev.now _
        · intro t
          apply Ev.succ
          cases t
          · rw [show (!false && (!false && y)) = y from by simp]
            have := j2I false
            simp only [impl_IsHistory.j1, Bool.false_eq_true, if_false, h3]
            simpa using this
          · simp only [impl_IsHistory.j1, if_true, Bool.not_true, Bool.false_and]; exact Ev.now _
    obtain ⟨t2, jS, jI⟩ := j1
    have fin : ∀ t : Bool, (!t && (!t2 && x)) = ((!t && (!t2 && y)) && decide ((l.length : Int) ≤ 9)) := by intro t; rw [hR, Bool.and_assoc, Bool.and_assoc]
    by_cases hb : bv = true
    · refine ⟨_, _, Ev.succ ?_, Ev.succ ?_, fin (q != (i : Int))⟩
      · simp only [spec_IsHistory.l0, spec_l18Tx.f, h1, Int.natCast_nonneg, if_true, Option.bind_some]
        refine Ev.bind eb ?_
        simp only [hb, hil, if_true, Int.toNat_natCast]
        refine Ev.bind er ?_
        rw [hF]; exact jS _
      · simp only [impl_IsHistory.l0, h1, Int.natCast_nonneg, if_true]
        refine Ev.bind eb' ?_
        simp only [hb, if_true]
        refine Ev.bind eq ?_
        exact jI _
    · refine ⟨_, _, Ev.succ ?_, Ev.succ ?_, fin true⟩
      · simp only [spec_IsHistory.l0, spec_l18Tx.f, h1, Int.natCast_nonneg, if_true, Option.bind_some]
        refine Ev.bind eb ?_
        simp only [hb, if_false]; exact jS true
      · simp only [impl_IsHistory.l0, h1, Int.natCast_nonneg, if_true]
        refine Ev.bind eb' ?_
        simp only [hb, if_false]; exact jI true
  · intro _ _ _
    refine ⟨u, v, Ev.succ ?_, Ev.succ ?_, huv⟩
    · simp only [spec_IsHistory.l0, Int.lt_irrefl, if_false]; exact hu
    · simp only [impl_IsHistory.l0, Int.lt_irrefl, if_false]; exact hv
theorem both_IsHistory (l : List S126) (hl : l.length ≤ 1048576) (hn : ∀ e ∈ l, fitd_Entry e) : ∃ r, Ev (fun k => spec_IsHistory.f k l) r ∧ Ev (fun k => impl_IsHistory.f k l) r ∧ True := by
  obtain ⟨x, y, h1, h2, hR⟩ := hist1 l hl hn
  by_cases c : (l.length : Int) > 9
  · have d : ¬ (l.length : Int) ≤ 9 := by omega
    have hx : x = false := by rw [hR]; simp [d]
    subst hx
    refine ⟨false, h1, ?_, trivial⟩
    unfold impl_IsHistory.f
    simp only [c, if_true]; exact Ev.now _
  · have d : (l.length : Int) ≤ 9 := by omega
    have hx : x = y := by rw [hR]; simp [d]
    subst hx
    refine ⟨x, h1, ?_, trivial⟩
    unfold impl_IsHistory.f
    simp only [c, if_false]; exact h2
theorem FnExactIsHistory : ∀ (x0 : List (S124)), (okRow PFnExactIsHistory.g124) x0 → ∃ k, laws_FnExactIsHistory.f k x0 = some true := by
  intro l hl
  apply Ev.rounds
  unfold laws_FnExactIsHistory.f
  obtain ⟨r, e, _, hf⟩ := sz_EntryS l 1048576 (by omega) (by omega) (by have := hl.1; simp only [maxLen] at this; omega) (fun x hx => by have h := (hl.2 x hx).2.2; have := h.1.1; have := h.2.1; simp only [maxLen] at *; unfold lim_Entry; omega)
  refine Ev.bind e ?_
  by_cases h : r < 0
  · simp only [h, if_true]; exact Ev.now _
  have hs := hf (by omega)
  simp only [h, if_false]
  obtain ⟨r, e1, e2, _⟩ := both_IsHistory (l.map cvEntry) (by simpa using hs.1) (fitds_cvEntry l hs).2
  refine Ev.bind (ev_toEntryS l hs) (Ev.bind e1 (Ev.bind (ev_toEntryS l hs) (Ev.bind e2 ?_)))
  simp only [bne_self_eq_false, Bool.false_eq_true, if_false]
  refine Ev.bind (ev_toEntryS l hs) (Ev.bind (ev_eqEntryS _ (fitds_cvEntry l hs)) ?_)
  exact Ev.some rfl

end Go.Proofs.Ytpiaeinfneoioaa.Pure
