/- The plain statement of FnExactFormatHistory: both functions come to one text, and leave the history as it was. Condition: the rows' lengths are at most maxLen. -/
import Derived.Test.YtgpmfkmdchcagaaDoorGoodFnExactFormatHistory
import Derived.Test.YtgpmfkmdchcagaaDoorPlainT
namespace Go.Proofs.YtgpmfkmdchcagaaDoor.Pure
open Go.RowKit Go.Proofs.YtgpmfkmdchcagaaDoor.PFnExactFormatHistory Go.Proofs.YtgpmfkmdchcagaaDoorW.PrintWords Go.Proofs.YtgpmfkmdchcagaaDoorW.PrintLast Go.Proofs.YtgpmfkmdchcagaaDoor.OpenK Go.Proofs.YtgpmfkmdchcagaaDoor.Plain
set_option linter.unusedVariables false
set_option linter.unusedSimpArgs false

theorem sz_ReadMarkS (l : List S98) (a : Int) (h0 : 0 ≤ a) (h1 : a ≤ 1048576) (hl : l.length ≤ 9223372036854775807) : laws_szReadMarkS.f l a = some (if a < l.length then -1 else a - l.length) := by
  unfold laws_szReadMarkS.f
  rw [wrap_in (by omega) (by omega)]
  by_cases h : a < l.length
  · rw [if_pos (by omega), if_pos h]
  · rw [if_neg (by omega), if_neg h]

theorem szx_ReadMark (l : List S98) (a : Int) (h0 : 0 ≤ a) (h1 : a ≤ 1048576) (hl : l.length ≤ 9223372036854775807) : ∃ r, Ev (fun _ => laws_szReadMarkS.f l a) r ∧ r ≤ a ∧ (0 ≤ r → l.length ≤ 1048576) := by
  rw [sz_ReadMarkS l a h0 h1 hl]
  refine ⟨_, Ev.now _, ?_, ?_⟩ <;> split <;> omega

theorem sz_WriteS (l : List S100) (a : Int) (h0 : 0 ≤ a) (h1 : a ≤ 1048576) (hl : l.length ≤ 9223372036854775807) : laws_szWriteS.f l a = some (if a < l.length then -1 else a - l.length) := by
  unfold laws_szWriteS.f
  rw [wrap_in (by omega) (by omega)]
  by_cases h : a < l.length
  · rw [if_pos (by omega), if_pos h]
  · rw [if_neg (by omega), if_neg h]

theorem szx_Write (l : List S100) (a : Int) (h0 : 0 ≤ a) (h1 : a ≤ 1048576) (hl : l.length ≤ 9223372036854775807) : ∃ r, Ev (fun _ => laws_szWriteS.f l a) r ∧ r ≤ a ∧ (0 ≤ r → l.length ≤ 1048576) := by
  rw [sz_WriteS l a h0 h1 hl]
  refine ⟨_, Ev.now _, ?_, ?_⟩ <;> split <;> omega

def cvReadMark (x : S98) : S55 := ⟨x.f0, x.f1⟩
theorem ev_toReadMarkS (l : List S98) (hl : l.length ≤ 1048576) : Ev (fun k => laws_toReadMarkS.f k l) (l.map cvReadMark) := by
  have h : Ev (fun k => laws_toReadMarkS.l0 k l (List.replicate l.length z55) ((0 : Nat) : Int)) (l.map cvReadMark) := by
    refine ev_up (σ := List S55) (fun ys i k => laws_toReadMarkS.l0 k l ys (i : Int)) l.length (fun ys i => Filled (l.map cvReadMark) ys i) (fun _ _ => l.map cvReadMark) ?_ ?_ (List.replicate l.length z55) 0 (Nat.zero_le _) (Filled.start _ _ (by simp))
    · intro ys i hi hI ih
      apply Ev.succ
      have h1 : (i : Int) < (l.length : Int) := by omega
      have h2 : (i : Int) < (ys.length : Int) := by have := hI.1; simp at this; omega
      simp only [laws_toReadMarkS.l0, laws_toReadMark.f, Option.bind_some, h1, h2, Int.natCast_nonneg, if_true, Int.toNat_natCast, wrap_up hi (by omega)]
      exact ih _ (hI.step (by simpa using hi) (by simp [cvReadMark, rd_T98, hi]))
    · intro ys hI
      apply Ev.succ
      simp only [laws_toReadMarkS.l0, Int.lt_irrefl, if_false]
      exact Ev.some (Filled.done (by simpa using hI))
  unfold laws_toReadMarkS.f
  have h3 : ((l.length : Int) : Int).toNat ≤ 17592186044416 := by omega
  simp only [Int.natCast_nonneg, if_true, h3]
  simpa using h

def cvWrite (x : S100) : S57 := ⟨x.f0, x.f1⟩
theorem ev_toWriteS (l : List S100) (hl : l.length ≤ 1048576) : Ev (fun k => laws_toWriteS.f k l) (l.map cvWrite) := by
  have h : Ev (fun k => laws_toWriteS.l0 k l (List.replicate l.length z57) ((0 : Nat) : Int)) (l.map cvWrite) := by
    refine ev_up (σ := List S57) (fun ys i k => laws_toWriteS.l0 k l ys (i : Int)) l.length (fun ys i => Filled (l.map cvWrite) ys i) (fun _ _ => l.map cvWrite) ?_ ?_ (List.replicate l.length z57) 0 (Nat.zero_le _) (Filled.start _ _ (by simp))
    · intro ys i hi hI ih
      apply Ev.succ
      have h1 : (i : Int) < (l.length : Int) := by omega
      have h2 : (i : Int) < (ys.length : Int) := by have := hI.1; simp at this; omega
      simp only [laws_toWriteS.l0, laws_toWrite.f, Option.bind_some, h1, h2, Int.natCast_nonneg, if_true, Int.toNat_natCast, wrap_up hi (by omega)]
      exact ih _ (hI.step (by simpa using hi) (by simp [cvWrite, rd_T100, hi]))
    · intro ys hI
      apply Ev.succ
      simp only [laws_toWriteS.l0, Int.lt_irrefl, if_false]
      exact Ev.some (Filled.done (by simpa using hI))
  unfold laws_toWriteS.f
  have h3 : ((l.length : Int) : Int).toNat ≤ 17592186044416 := by omega
  simp only [Int.natCast_nonneg, if_true, h3]
  simpa using h

theorem ev_eqReadMarkS (l : List S55) (hl : l.length ≤ 9223372036854775807) : Ev (fun k => laws_eqReadMarkS.f k l l) true := by
  have h : Ev (fun k => laws_eqReadMarkS.l0 k l l ((0 : Nat) : Int)) true := by
    refine ev_up (σ := Unit) (fun _ i k => laws_eqReadMarkS.l0 k l l (i : Int)) l.length (fun _ _ => True) (fun _ _ => true) ?_ ?_ () 0 (Nat.zero_le _) trivial
    · intro ys i hi hI ih
      apply Ev.succ
      have h1 : (i : Int) < (l.length : Int) := by omega
      simp only [laws_eqReadMarkS.l0, laws_eqReadMark.f, Option.bind_some, h1, Int.natCast_nonneg, if_true, wrap_up hi hl]
      exact ih () trivial
    · intro ys hI
      apply Ev.succ
      simp only [laws_eqReadMarkS.l0, Int.lt_irrefl, if_false]
      exact Ev.now _
  unfold laws_eqReadMarkS.f
  simp only [if_true]
  exact h

theorem ev_eqWriteS (l : List S57) (hl : l.length ≤ 9223372036854775807) : Ev (fun k => laws_eqWriteS.f k l l) true := by
  have h : Ev (fun k => laws_eqWriteS.l0 k l l ((0 : Nat) : Int)) true := by
    refine ev_up (σ := Unit) (fun _ i k => laws_eqWriteS.l0 k l l (i : Int)) l.length (fun _ _ => True) (fun _ _ => true) ?_ ?_ () 0 (Nat.zero_le _) trivial
    · intro ys i hi hI ih
      apply Ev.succ
      have h1 : (i : Int) < (l.length : Int) := by omega
      simp only [laws_eqWriteS.l0, laws_eqWrite.f, Option.bind_some, h1, Int.natCast_nonneg, if_true, wrap_up hi hl]
      exact ih () trivial
    · intro ys hI
      apply Ev.succ
      simp only [laws_eqWriteS.l0, Int.lt_irrefl, if_false]
      exact Ev.now _
  unfold laws_eqWriteS.f
  simp only [if_true]
  exact h

def fit_Entry (x : S47) : Prop := x.f2.length ≤ 1048576 ∧ x.f3.length ≤ 1048576
def lim_Entry (x : S47) : Prop := x.f2.length ≤ 9223372036854775807 ∧ x.f3.length ≤ 9223372036854775807
def fitd_Entry (x : S53) : Prop := x.f2.length ≤ 1048576 ∧ x.f3.length ≤ 1048576
theorem sz_Entry (x : S47) (a : Int) (h0 : 0 ≤ a) (h1 : a ≤ 1048576) (hg : lim_Entry x) : ∃ r, Ev (fun k => laws_szEntry.f x.f0 x.f1 x.f2 x.f3 a) r ∧ r ≤ a ∧ (0 ≤ r → fit_Entry x) := by
  unfold lim_Entry at hg
  unfold laws_szEntry.f fit_Entry
  obtain ⟨r0, e0, u0, f0⟩ := szx_ReadMark x.f2 a h0 h1 hg.1
  by_cases c0 : r0 < 0
  · exact ⟨-1, Ev.bind e0 (by simp only [c0, if_true]; exact Ev.now _), by omega, fun h => absurd h (by omega)⟩
  obtain ⟨r1, e1, u1, f1⟩ := szx_Write x.f3 r0 (by omega) (by omega) hg.2
  by_cases c1 : r1 < 0
  · exact ⟨-1, Ev.bind e0 (by simp only [c0, if_false]; exact Ev.bind e1 (by simp only [c1, if_true]; exact Ev.now _)), by omega, fun h => absurd h (by omega)⟩
  exact ⟨r1, Ev.bind e0 (by simp only [c0, if_false]; exact Ev.bind e1 (by simp only [c1, if_false]; exact Ev.now _)), by omega, fun _ => ⟨f0 (by omega), f1 (by omega)⟩⟩

theorem sz_EntryS (l : List S47) (a : Int) (h0 : 0 ≤ a) (h1 : a ≤ 1048576) (hl : l.length ≤ 9223372036854775807) (hg : ∀ e ∈ l, lim_Entry e) : ∃ r, Ev (fun k => laws_szEntryS.f k l a) r ∧ r ≤ a ∧ (0 ≤ r → (l.length ≤ 1048576 ∧ ∀ e ∈ l, fit_Entry e)) := by
  unfold laws_szEntryS.f
  rw [wrap_in (by omega) (by omega)]
  by_cases h : a - (l.length : Int) < 0
  · simp only [h, if_true]; exact ⟨-1, Ev.now _, by omega, fun h => absurd h (by omega)⟩
  simp only [h, if_false]
  refine ev_to (σ := Int) (fun s i k => laws_szEntryS.l0 k l s (i : Int)) l.length (fun s i => 0 ≤ s ∧ s ≤ a ∧ ∀ j (hj : j < l.length), j < i → fit_Entry l[j]) (fun r => r ≤ a ∧ (0 ≤ r → (l.length ≤ 1048576 ∧ ∀ e ∈ l, fit_Entry e))) ?_ ?_ (a - (l.length : Int)) 0 (Nat.zero_le _) ⟨by omega, by omega, fun j hj h => absurd h (by omega)⟩
  · intro s i hi ⟨hs, hsa, hI⟩ ih
    have h2 : (i : Int) < (l.length : Int) := by omega
    have hrd : rd_T47 l (i : Int) = l[i] := by simp [rd_T47, hi]
    obtain ⟨r, e, hr, hf⟩ := sz_Entry (rd_T47 l (i : Int)) s hs (by omega) (hg _ (by rw [hrd]; exact List.getElem_mem hi))
    by_cases c : r < 0
    · refine ⟨-1, Ev.succ ?_, by omega, fun h => absurd h (by omega)⟩
      simp only [laws_szEntryS.l0, h2, Int.natCast_nonneg, if_true]
      exact Ev.bind e (by simp only [c, if_true]; exact Ev.now _)
    · obtain ⟨r', e', h'⟩ := ih r ⟨by omega, by omega, fun j hj hji => if hh : j < i then hI j hj hh else by obtain rfl : j = i := by omega
                                                                                                             rw [← hrd]; exact hf (by omega)⟩
      refine ⟨r', Ev.succ ?_, h'⟩
      simp only [laws_szEntryS.l0, h2, Int.natCast_nonneg, if_true]
      exact Ev.bind e (by simp only [c, if_false, wrap_up hi (by omega)]; exact e')
  · intro s ⟨hs, hsa, hI⟩
    refine ⟨s, Ev.succ ?_, hsa, fun _ => ⟨by omega, fun e he => ?_⟩⟩
    · simp only [laws_szEntryS.l0, Int.lt_irrefl, if_false]; exact Ev.now _
    · obtain ⟨j, hj, rfl⟩ := List.getElem_of_mem he
      exact hI j hj hj

def cvEntry (x : S47) : S53 := ⟨x.f0, x.f1, x.f2.map cvReadMark, x.f3.map cvWrite⟩
theorem fitd_cvEntry (x : S47) (h : fit_Entry x) : fitd_Entry (cvEntry x) := by
  simpa [fit_Entry, fitd_Entry, cvEntry] using h

theorem ev_toEntry (x : S47) (h : fit_Entry x) : Ev (fun k => laws_toEntry.f k x.f0 x.f1 x.f2 x.f3) (x.f0, x.f1, x.f2.map cvReadMark, x.f3.map cvWrite) := by
  unfold fit_Entry at h
  unfold laws_toEntry.f
  exact Ev.bind (ev_toReadMarkS x.f2 h.1) (Ev.bind (ev_toWriteS x.f3 h.2) (Ev.now _))

theorem ev_toEntryS (l : List S47) (h : l.length ≤ 1048576 ∧ ∀ e ∈ l, fit_Entry e) : Ev (fun k => laws_toEntryS.f k l) (l.map cvEntry) := by
  have hl := h.1
  have hh : Ev (fun k => laws_toEntryS.l0 k l (List.replicate l.length z53) ((0 : Nat) : Int)) (l.map cvEntry) := by
    refine ev_up (σ := List S53) (fun ys i k => laws_toEntryS.l0 k l ys (i : Int)) l.length (fun ys i => Filled (l.map cvEntry) ys i) (fun _ _ => l.map cvEntry) ?_ ?_ (List.replicate l.length z53) 0 (Nat.zero_le _) (Filled.start _ _ (by simp))
    · intro ys i hi hI ih
      apply Ev.succ
      have h1 : (i : Int) < (l.length : Int) := by omega
      have h2 : (i : Int) < (ys.length : Int) := by have := hI.1; simp at this; omega
      have hrd : rd_T47 l (i : Int) = l[i] := by simp [rd_T47, hi]
      simp only [laws_toEntryS.l0, h1, Int.natCast_nonneg, if_true]
      refine Ev.bind (ev_toEntry _ (by rw [hrd]; exact h.2 _ (List.getElem_mem hi))) ?_
      simp only [h2, if_true, Int.toNat_natCast, wrap_up hi (by omega)]
      exact ih _ (hI.step (by simpa using hi) (by simp [cvEntry, hrd]))
    · intro ys hI
      apply Ev.succ
      simp only [laws_toEntryS.l0, Int.lt_irrefl, if_false]
      exact Ev.some (Filled.done (by simpa using hI))
  unfold laws_toEntryS.f
  have h3 : ((l.length : Int) : Int).toNat ≤ 4398046511104 := by omega
  simp only [Int.natCast_nonneg, if_true, h3]
  simpa using hh
theorem fitds_cvEntry (l : List S47) (h : l.length ≤ 1048576 ∧ ∀ e ∈ l, fit_Entry e) : (l.map cvEntry).length ≤ 1048576 ∧ ∀ e ∈ l.map cvEntry, fitd_Entry e := by
  refine ⟨by simpa using h.1, fun e he => ?_⟩
  obtain ⟨x, hx, rfl⟩ := List.mem_map.mp he
  exact fitd_cvEntry x (h.2 x hx)

theorem ev_eqEntry (x : S53) (h : fitd_Entry x) : Ev (fun k => laws_eqEntry.f k x.f0 x.f1 x.f2 x.f3 x.f0 x.f1 x.f2 x.f3) true := by
  unfold fitd_Entry at h
  unfold laws_eqEntry.f
  simp only [if_true]
  exact Ev.bind (ev_eqReadMarkS x.f2 (by have := h.1; omega)) (by simp only [if_true]; exact Ev.bind (ev_eqWriteS x.f3 (by have := h.2; omega)) (by simp only [if_true]; exact Ev.now _))

theorem ev_eqEntryS (l : List S53) (h : l.length ≤ 1048576 ∧ ∀ e ∈ l, fitd_Entry e) : Ev (fun k => laws_eqEntryS.f k l l) true := by
  have hl := h.1
  have hh : Ev (fun k => laws_eqEntryS.l0 k l l ((0 : Nat) : Int)) true := by
    refine ev_up (σ := Unit) (fun _ i k => laws_eqEntryS.l0 k l l (i : Int)) l.length (fun _ _ => True) (fun _ _ => true) ?_ ?_ () 0 (Nat.zero_le _) trivial
    · intro ys i hi hI ih
      apply Ev.succ
      have h1 : (i : Int) < (l.length : Int) := by omega
      have hrd : rd_T53 l (i : Int) = l[i] := by simp [rd_T53, hi]
      simp only [laws_eqEntryS.l0, h1, Int.natCast_nonneg, if_true]
      refine Ev.bind (ev_eqEntry _ (by rw [hrd]; exact h.2 _ (List.getElem_mem hi))) ?_
      simp only [if_true, wrap_up hi (by omega)]
      exact ih () trivial
    · intro ys hI
      apply Ev.succ
      simp only [laws_eqEntryS.l0, Int.lt_irrefl, if_false]
      exact Ev.now _
  unfold laws_eqEntryS.f
  simp only [if_true]
  exact hh


theorem l1In_eq (a b c : Int) : spec_l1In.f a b c = some (decide (b ≤ a) && decide (a ≤ c)) := by
  by_cases h : b ≤ a <;> simp [spec_l1In.f, h]
theorem in_eq (a b c : Int) : impl_in.f a b c = some (decide (b ≤ a) && decide (a ≤ c)) := by
  by_cases h : b ≤ a <;> simp [impl_in.f, h]
theorem compare_eq (a b : Int) : cmp_Compare_int.f a b = some (if a < b then -1 else if a > b then 1 else 0) := by
  by_cases h : a < b <;> by_cases h' : a > b <;> simp [cmp_Compare_int.f, cmp_isNaN_int.f, h, h']
theorem ev_or (x y : Int) : Ev (fun k => cmp_Or_int.f k [x, y]) (if x = 0 then y else x) := by
  show Ev (fun k => cmp_Or_int.l0 k 0 [x, y] (2 : Int) 0) _
  apply Ev.succ
  by_cases hx : x = 0
  · simp only [cmp_Or_int.l0, hx, rd, wrap64, if_true]
    apply Ev.succ
    by_cases hy : y = 0
    · subst hy
      simp [cmp_Or_int.l0, rd, wrap64]
      apply Ev.succ
      simp [cmp_Or_int.l0]; exact Ev.now _
    · simp [cmp_Or_int.l0, rd, wrap64, hy]; exact Ev.now _
  · simp [cmp_Or_int.l0, rd, hx]; exact Ev.now _
theorem ev_cmp (a b c d : Int) : ∃ v, Ev (fun k => impl_compareMarks.f k a b c d) v ∧ spec_l5Before.f a b c d = some (decide (v < 0)) := by
  refine ⟨if (if a < c then -1 else if a > c then 1 else 0) = (0 : Int) then (if b < d then -1 else if b > d then 1 else 0) else (if a < c then -1 else if a > c then 1 else 0), ?_, ?_⟩
  · unfold impl_compareMarks.f
    simp only [compare_eq, Option.bind_some]
    exact Ev.bind (ev_or _ _) (Ev.now _)
  · unfold spec_l5Before.f
    by_cases h1 : a < c
    · simp [h1]
    · by_cases h2 : a > c
      · have h3 : ¬ a = c := by omega
        simp [h1, h2, h3]
      · have h3 : a = c := by omega
        by_cases h4 : b < d
        · simp [h3, h4]
        · by_cases h5 : b > d <;> simp [h3, h4, h5]
theorem both_reads (a0 a1 a2 a3 a4 a5 a6 : Int) (rs : List S55) (ws : List S57) (hl : rs.length ≤ 1048576) (r : Bool) (hr : Ev (fun k => spec_IsValidTransaction.l1 k 0 a0 a1 a2 a3 a4 a5 a6 rs ws) r) :
    ∃ x y, Ev (fun k => impl_areReads.f k rs) x ∧ Ev (fun k => spec_IsValidTransaction.l0 k ((0 : Nat) : Int) a0 a1 a2 a3 a4 a5 a6 rs ws) y ∧ ∃ rb : Bool, x = (rb && decide ((rs.length : Int) ≤ 60)) ∧ y = (rb && r) := by
  refine ev_two (σ := Unit) (τ := Unit) (fun _ i k => impl_areReads.l0 k rs rs (rs.length : Int) (i : Int)) (fun _ i k => spec_IsValidTransaction.l0 k (i : Int) a0 a1 a2 a3 a4 a5 a6 rs ws) rs.length (fun _ _ _ => True) (fun x y => ∃ rb : Bool, x = (rb && decide ((rs.length : Int) ≤ 60)) ∧ y = (rb && r)) ?_ ?_ () () 0 (Nat.zero_le _) trivial
  · intro _ _ i hi _ ih
    have h1 : (i : Int) < (rs.length : Int) := by omega
    have e0 := wrap_up hi (by omega)
    obtain ⟨x, y, hx, hy, rb, rfl, rfl⟩ := ih () () trivial
    have iT : Ev (fun k => impl_areReads.j1 k rs (i : Int) rs (rs.length : Int) true) false := Ev.succ (by simp only [impl_areReads.j1, if_true]; exact Ev.now _)
    have sT : Ev (fun k => spec_IsValidTransaction.j1 k (i : Int) true a0 a1 a2 a3 a4 a5 a6 rs ws) false := Ev.succ (by simp only [spec_IsValidTransaction.j1, if_true]; exact Ev.now _)
    have iF : Ev (fun k => impl_areReads.j1 k rs (i : Int) rs (rs.length : Int) false) (rb && decide ((rs.length : Int) ≤ 60)) := Ev.succ (by simp only [impl_areReads.j1, Bool.false_eq_true, if_false, e0]; exact hx)
    have sF : Ev (fun k => spec_IsValidTransaction.j1 k (i : Int) false a0 a1 a2 a3 a4 a5 a6 rs ws) (rb && r) := Ev.succ (by simp only [spec_IsValidTransaction.j1, Bool.false_eq_true, if_false, e0]; exact hy)
    by_cases ck : (decide (0 ≤ (rd_T55 rs (i : Int)).f0) && decide ((rd_T55 rs (i : Int)).f0 ≤ 5)) = true
    rotate_left 1
    · refine ⟨false, false, Ev.succ ?_, Ev.succ ?_, false, by simp, by simp⟩
      · simp only [impl_areReads.l0, impl_isKey.f, in_eq, h1, ck, Int.natCast_nonneg, if_true, if_false, Option.bind_some]; exact iT
      · simp only [spec_IsValidTransaction.l0, l1In_eq, h1, ck, Int.natCast_nonneg, if_true, if_false, Option.bind_some]; exact sT
    by_cases cc : (decide (0 ≤ (rd_T55 rs (i : Int)).f1) && decide ((rd_T55 rs (i : Int)).f1 ≤ 999)) = true
    rotate_left 1
    · refine ⟨false, false, Ev.succ ?_, Ev.succ ?_, false, by simp, by simp⟩
      · simp only [impl_areReads.l0, impl_isKey.f, in_eq, h1, ck, cc, Int.natCast_nonneg, if_true, if_false, Option.bind_some]; exact iT
      · simp only [spec_IsValidTransaction.l0, l1In_eq, h1, ck, cc, Int.natCast_nonneg, if_true, if_false, Option.bind_some]; exact sT
    by_cases h0 : 0 < i
    · have e1 : wrap64 ((i : Int) - 1) = ((i - 1 : Nat) : Int) := wrap_down h0 (by omega)
      have h2 : ((i - 1 : Nat) : Int) < (rs.length : Int) := by omega
      have h3 : (i : Int) > 0 := by omega
      obtain ⟨v, ev, hb⟩ := ev_cmp (rd_T55 rs ((i - 1 : Nat) : Int)).f0 (rd_T55 rs ((i - 1 : Nat) : Int)).f1 (rd_T55 rs (i : Int)).f0 (rd_T55 rs (i : Int)).f1
      by_cases hv : v < 0
      · have hv' : ¬ v ≥ 0 := by omega
        refine ⟨(rb && decide ((rs.length : Int) ≤ 60)), (rb && r), Ev.succ ?_, Ev.succ ?_, rb, rfl, rfl⟩
        · simp only [impl_areReads.l0, impl_isKey.f, in_eq, h1, h2, h3, e1, ck, cc, Int.natCast_nonneg, if_true, Option.bind_some]
          refine Ev.bind ev ?_
          simp only [hv', decide_false]; exact iF
        · simp only [spec_IsValidTransaction.l0, l1In_eq, hb, hv, h1, h2, h3, e1, ck, cc, Int.natCast_nonneg, if_true, Option.bind_some, decide_true, Bool.not_true]; exact sF
      · have hv' : v ≥ 0 := by omega
        refine ⟨false, false, Ev.succ ?_, Ev.succ ?_, false, by simp, by simp⟩
        · simp only [impl_areReads.l0, impl_isKey.f, in_eq, h1, h2, h3, e1, ck, cc, Int.natCast_nonneg, if_true, Option.bind_some]
          refine Ev.bind ev ?_
          simp only [hv', decide_true]; exact iT
        · simp only [spec_IsValidTransaction.l0, l1In_eq, hb, hv, h1, h2, h3, e1, ck, cc, Int.natCast_nonneg, if_true, Option.bind_some, decide_false, Bool.not_false]; exact sT
    · have h3 : ¬ (i : Int) > 0 := by omega
      refine ⟨(rb && decide ((rs.length : Int) ≤ 60)), (rb && r), Ev.succ ?_, Ev.succ ?_, rb, rfl, rfl⟩
      · simp only [impl_areReads.l0, impl_isKey.f, in_eq, h1, h3, ck, cc, Int.natCast_nonneg, if_true, if_false, Option.bind_some]; exact iF
      · simp only [spec_IsValidTransaction.l0, l1In_eq, h1, h3, ck, cc, Int.natCast_nonneg, if_true, if_false, Option.bind_some]; exact sF
  · intro _ _ _
    refine ⟨decide ((rs.length : Int) ≤ 60), r, Ev.succ ?_, Ev.succ ?_, true, (Bool.true_and _).symm, (Bool.true_and _).symm⟩
    · simp only [impl_areReads.l0, Int.lt_irrefl, if_false]; exact Ev.now _
    · simp only [spec_IsValidTransaction.l0, Int.lt_irrefl, if_false]; exact hr
def tailOf (a0 a1 a2 a3 a4 a5 a6 : Int) (n : Int) : Bool :=
  ((decide (1 ≤ a0) && decide (a0 ≤ 9)) && ((decide (1 ≤ a1) && decide (a1 ≤ 4)) && (decide (0 ≤ a3) && decide (a3 ≤ 999)))) &&
  ((decide (1 ≤ a2) && decide (a2 ≤ 3)) && ((decide (0 ≤ a4) && decide (a4 ≤ 999)) && ((decide (1 ≤ a5) && decide (a5 ≤ 1000)) && (((a2 == 2) == decide (a6 > 0)) && ((decide (0 ≤ a6) && decide (a6 ≤ 999)) && decide (n ≤ 60))))))
theorem both_writes (a0 a1 a2 a3 a4 a5 a6 : Int) (rs : List S55) (ws : List S57) (hl : ws.length ≤ 1048576) :
    ∃ x y, Ev (fun k => impl_areWrites.f k ws) x ∧ Ev (fun k => spec_IsValidTransaction.l1 k ((0 : Nat) : Int) a0 a1 a2 a3 a4 a5 a6 rs ws) y ∧ y = (x && tailOf a0 a1 a2 a3 a4 a5 a6 (rs.length : Int)) := by
  refine ev_two (σ := Unit) (τ := Unit) (fun _ i k => impl_areWrites.l0 k ws ws (ws.length : Int) (i : Int)) (fun _ i k => spec_IsValidTransaction.l1 k (i : Int) a0 a1 a2 a3 a4 a5 a6 rs ws) ws.length (fun _ _ _ => True) (fun x y => y = (x && tailOf a0 a1 a2 a3 a4 a5 a6 (rs.length : Int))) ?_ ?_ () () 0 (Nat.zero_le _) trivial
  · intro _ _ i hi _ ih
    have h1 : (i : Int) < (ws.length : Int) := by omega
    have e0 := wrap_up hi (by omega)
    obtain ⟨x, y, hx, hy, rfl⟩ := ih () () trivial
    have iT : Ev (fun k => impl_areWrites.j1 k ws (i : Int) ws (ws.length : Int) true) false := Ev.succ (by simp only [impl_areWrites.j1, if_true]; exact Ev.now _)
    have sT : Ev (fun k => spec_IsValidTransaction.j3 k (i : Int) true a0 a1 a2 a3 a4 a5 a6 rs ws) false := Ev.succ (by simp only [spec_IsValidTransaction.j3, if_true]; exact Ev.now _)
    have iF : Ev (fun k => impl_areWrites.j1 k ws (i : Int) ws (ws.length : Int) false) x := Ev.succ (by simp only [impl_areWrites.j1, Bool.false_eq_true, if_false, e0]; exact hx)
    have sF : Ev (fun k => spec_IsValidTransaction.j3 k (i : Int) false a0 a1 a2 a3 a4 a5 a6 rs ws) (x && tailOf a0 a1 a2 a3 a4 a5 a6 (rs.length : Int)) := Ev.succ (by simp only [spec_IsValidTransaction.j3, Bool.false_eq_true, if_false, e0]; exact hy)
    by_cases ck : (decide (0 ≤ (rd_T57 ws (i : Int)).f0) && decide ((rd_T57 ws (i : Int)).f0 ≤ 5)) = true
    rotate_left 1
    · refine ⟨false, false, Ev.succ ?_, Ev.succ ?_, by simp⟩
      · simp only [impl_areWrites.l0, impl_isKey.f, in_eq, h1, ck, Int.natCast_nonneg, if_true, if_false, Option.bind_some]; exact iT
      · simp only [spec_IsValidTransaction.l1, l1In_eq, h1, ck, Int.natCast_nonneg, if_true, if_false, Option.bind_some]; exact sT
    by_cases cc : (decide (-1 ≤ (rd_T57 ws (i : Int)).f1) && decide ((rd_T57 ws (i : Int)).f1 ≤ 99)) = true
    rotate_left 1
    · refine ⟨false, false, Ev.succ ?_, Ev.succ ?_, by simp⟩
      · simp only [impl_areWrites.l0, impl_isKey.f, impl_isValue.f, in_eq, h1, ck, cc, Int.natCast_nonneg, if_true, if_false, Option.bind_some]; exact iT
      · simp only [spec_IsValidTransaction.l1, l1In_eq, h1, ck, cc, Int.natCast_nonneg, if_true, if_false, Option.bind_some]; exact sT
    by_cases h0 : 0 < i
    · have e1 : wrap64 ((i : Int) - 1) = ((i - 1 : Nat) : Int) := wrap_down h0 (by omega)
      have h2 : ((i - 1 : Nat) : Int) < (ws.length : Int) := by omega
      have h3 : (i : Int) > 0 := by omega
      by_cases hv : (rd_T57 ws ((i - 1 : Nat) : Int)).f0 ≥ (rd_T57 ws (i : Int)).f0
      · refine ⟨false, false, Ev.succ ?_, Ev.succ ?_, by simp⟩
        · simp only [impl_areWrites.l0, impl_isKey.f, impl_isValue.f, in_eq, h1, h2, h3, e1, hv, ck, cc, Int.natCast_nonneg, if_true, Option.bind_some, decide_true]; exact iT
        · simp only [spec_IsValidTransaction.l1, l1In_eq, h1, h2, h3, e1, hv, ck, cc, Int.natCast_nonneg, if_true, Option.bind_some, decide_true]; exact sT
      · refine ⟨x, (x && tailOf a0 a1 a2 a3 a4 a5 a6 (rs.length : Int)), Ev.succ ?_, Ev.succ ?_, rfl⟩
        · simp only [impl_areWrites.l0, impl_isKey.f, impl_isValue.f, in_eq, h1, h2, h3, e1, hv, ck, cc, Int.natCast_nonneg, if_true, Option.bind_some, decide_false]; exact iF
        · simp only [spec_IsValidTransaction.l1, l1In_eq, h1, h2, h3, e1, hv, ck, cc, Int.natCast_nonneg, if_true, Option.bind_some, decide_false]; exact sF
    · have h3 : ¬ (i : Int) > 0 := by omega
      refine ⟨x, (x && tailOf a0 a1 a2 a3 a4 a5 a6 (rs.length : Int)), Ev.succ ?_, Ev.succ ?_, rfl⟩
      · simp only [impl_areWrites.l0, impl_isKey.f, impl_isValue.f, in_eq, h1, h3, ck, cc, Int.natCast_nonneg, if_true, if_false, Option.bind_some]; exact iF
      · simp only [spec_IsValidTransaction.l1, l1In_eq, h1, h3, ck, cc, Int.natCast_nonneg, if_true, if_false, Option.bind_some]; exact sF
  · intro _ _ _
    refine ⟨true, tailOf a0 a1 a2 a3 a4 a5 a6 (rs.length : Int), Ev.succ ?_, Ev.succ ?_, (Bool.true_and _).symm⟩
    · simp only [impl_areWrites.l0, Int.lt_irrefl, if_false]; exact Ev.now _
    · have jT : Ev (fun k => spec_IsValidTransaction.j4 k true a0 a1 a2 a3 a4 a5 a6 rs ws) false := Ev.succ (by simp only [spec_IsValidTransaction.j4, if_true]; exact Ev.now _)
      have jF : Ev (fun k => spec_IsValidTransaction.j4 k false a0 a1 a2 a3 a4 a5 a6 rs ws) ((decide (1 ≤ a2) && decide (a2 ≤ 3)) && ((decide (0 ≤ a4) && decide (a4 ≤ 999)) && ((decide (1 ≤ a5) && decide (a5 ≤ 1000)) && (((a2 == 2) == decide (a6 > 0)) && ((decide (0 ≤ a6) && decide (a6 ≤ 999)) && decide ((rs.length : Int) ≤ 60)))))) := by
        apply Ev.succ
        simp only [spec_IsValidTransaction.j4, Bool.false_eq_true, if_false, l1In_eq, Option.bind_some]
        generalize (decide (1 ≤ a2) && decide (a2 ≤ 3)) = b2
        generalize (decide (0 ≤ a4) && decide (a4 ≤ 999)) = b4
        generalize (decide (1 ≤ a5) && decide (a5 ≤ 1000)) = b5
        generalize ((a2 == 2) == decide (a6 > 0)) = b6
        generalize (decide (0 ≤ a6) && decide (a6 ≤ 999)) = b7
        cases b2 <;> cases b4 <;> cases b5 <;> cases b6 <;> cases b7 <;> simp only [Bool.false_eq_true, if_false, if_true, Bool.false_and, Bool.true_and] <;> exact Ev.now _
      simp only [spec_IsValidTransaction.l1, Int.lt_irrefl, if_false, l1In_eq, Option.bind_some]
      unfold tailOf
      revert jF
      generalize ((decide (1 ≤ a2) && decide (a2 ≤ 3)) && ((decide (0 ≤ a4) && decide (a4 ≤ 999)) && ((decide (1 ≤ a5) && decide (a5 ≤ 1000)) && (((a2 == 2) == decide (a6 > 0)) && ((decide (0 ≤ a6) && decide (a6 ≤ 999)) && decide ((rs.length : Int) ≤ 60)))))) = bt
      intro jF
      generalize (decide (1 ≤ a0) && decide (a0 ≤ 9)) = b0
      generalize (decide (1 ≤ a1) && decide (a1 ≤ 4)) = b1
      generalize (decide (0 ≤ a3) && decide (a3 ≤ 999)) = b3
      cases b0 <;> cases b1 <;> cases b3 <;> simp only [Bool.false_eq_true, if_false, if_true, Bool.false_and, Bool.true_and, Bool.not_true, Bool.not_false, Bool.and_false, Bool.and_true] <;> first | exact jT | exact jF
theorem both_WriterOf (l : List S53) (a b : Int) (hl : l.length ≤ 1048576) (hn : ∀ e ∈ l, fitd_Entry e) : ∃ r, Ev (fun k => spec_WriterOf.f k l a b) r ∧ Ev (fun k => impl_WriterOf.f k l a b) r ∧ True := by
  refine ev_both (σ := Unit) (τ := Unit) (fun _ i k => spec_WriterOf.l0 k l (i : Int) a b) (fun _ i k => impl_WriterOf.l0 k l (l.length : Int) (i : Int) a b) l.length (fun _ _ _ => True) (fun _ => True) ?_ ?_ () () 0 (Nat.zero_le _) trivial
  · intro _ _ i hi _ ih
    have h1 : (i : Int) < (l.length : Int) := by omega
    have e0 := wrap_up hi (by omega)
    obtain ⟨r, hs, ht, _⟩ := ih () () trivial
    have hrd : rd_T53 l (i : Int) = l[i] := by simp [rd_T53, hi]
    have hf := (hn _ (List.getElem_mem hi)).2
    rw [← hrd] at hf
    by_cases c : (rd_T53 l i).f1 = b
    · have h : ∃ r1 q, Ev (fun k => spec_WriterOf.l1 k l (i : Int) ((0 : Nat) : Int) a b) r1 ∧ Ev (fun k => impl_Write_113.l0 k (rd_T53 l i).f3 ((rd_T53 l i).f3.length : Int) ((0 : Nat) : Int) a) q ∧ ((q < 0 ∧ r1 = r) ∨ (0 ≤ q ∧ r1 = (rd_T53 l i).f0)) := by
        refine ev_two (σ := Unit) (τ := Unit) (fun _ j k => spec_WriterOf.l1 k l (i : Int) (j : Int) a b) (fun _ j k => impl_Write_113.l0 k (rd_T53 l i).f3 ((rd_T53 l i).f3.length : Int) (j : Int) a) (rd_T53 l i).f3.length (fun _ _ _ => True) (fun r1 q => ((q < 0 ∧ r1 = r) ∨ (0 ≤ q ∧ r1 = (rd_T53 l i).f0))) ?_ ?_ () () 0 (Nat.zero_le _) trivial
        · intro _ _ j hj _ ih2
          have h2 : (j : Int) < ((rd_T53 l i).f3.length : Int) := by omega
          have e1 := wrap_up hj (by omega)
          by_cases d : (rd_T57 (rd_T53 l i).f3 j).f0 = a
          · refine ⟨(rd_T53 l i).f0, (j : Int), Ev.succ ?_, Ev.succ ?_, .inr ⟨by omega, rfl⟩⟩ <;> (simp only [spec_WriterOf.l1, impl_Write_113.l0, impl_Entry_writes_1.f, h1, h2, c, d, beq_self_eq_true, Int.natCast_nonneg, if_true, Option.bind_some]; exact Ev.now _)
          · obtain ⟨r1, q, hs1, ht1, hR⟩ := ih2 () () trivial
            have db : ((rd_T57 (rd_T53 l i).f3 j).f0 == a) = false := by simpa using d
            refine ⟨r1, q, Ev.succ ?_, Ev.succ ?_, hR⟩ <;> (simp only [spec_WriterOf.l1, impl_Write_113.l0, impl_Entry_writes_1.f, h1, h2, c, d, db, e1, Int.natCast_nonneg, if_true, if_false, Option.bind_some, Bool.false_eq_true]; assumption)
        · intro _ _ _
          refine ⟨r, -1, Ev.succ ?_, Ev.succ ?_, .inl ⟨by omega, rfl⟩⟩
          · simp only [spec_WriterOf.l1, h1, e0, Int.natCast_nonneg, Int.lt_irrefl, if_true, if_false]; exact hs
          · simp only [impl_Write_113.l0, Int.lt_irrefl, if_false]; exact Ev.now _
      obtain ⟨r1, q, g1, g2, hR⟩ := h
      refine ⟨r1, Ev.succ ?_, Ev.succ ?_, trivial⟩
      · simp only [spec_WriterOf.l0, h1, if_true]; exact g1
      · simp only [impl_WriterOf.l0, h1, c, Int.natCast_nonneg, if_true, impl_Entry_writes.f, impl_Write_97.f, impl_Write_113.f]
        refine Ev.bind (Ev.bind (Ev.bind g2 (Ev.now _)) (Ev.now _)) ?_
        rcases hR with ⟨hq, rfl⟩ | ⟨hq, rfl⟩
        · have : ¬ q ≥ 0 := by omega
          simp only [this, decide_false, Bool.false_eq_true, if_false, e0]; exact ht
        · have : q ≥ 0 := by omega
          simp only [this, decide_true, if_true]; exact Ev.now _
    · have h : Ev (fun k => spec_WriterOf.l1 k l (i : Int) ((0 : Nat) : Int) a b) r := by
        refine ev_up (σ := Unit) (fun _ j k => spec_WriterOf.l1 k l (i : Int) (j : Int) a b) (rd_T53 l i).f3.length (fun _ _ => True) (fun _ _ => r) ?_ ?_ () 0 (Nat.zero_le _) trivial
        · intro _ j hj _ ih2
          have h2 : (j : Int) < ((rd_T53 l i).f3.length : Int) := by omega
          have e1 := wrap_up hj (by omega)
          apply Ev.succ
          simp only [spec_WriterOf.l1, h1, h2, c, e1, Int.natCast_nonneg, if_true, if_false]
          exact ih2 () trivial
        · intro _ _
          apply Ev.succ
          simp only [spec_WriterOf.l1, h1, e0, Int.natCast_nonneg, Int.lt_irrefl, if_true, if_false]; exact hs
      refine ⟨r, Ev.succ ?_, Ev.succ ?_, trivial⟩
      · simp only [spec_WriterOf.l0, h1, if_true]; exact h
      · simp only [impl_WriterOf.l0, h1, c, e0, Int.natCast_nonneg, if_true, if_false]; exact ht
  · intro _ _ _
    refine ⟨0, Ev.succ ?_, Ev.succ ?_, trivial⟩ <;> (simp only [spec_WriterOf.l0, impl_WriterOf.l0, Int.lt_irrefl, if_false]; exact Ev.now _)
theorem both_isEntry (a0 a1 : Int) (rs : List S55) (ws : List S57) (hl : rs.length ≤ 1048576) (hw : ws.length ≤ 1048576) :
    ∃ b : Bool, Ev (fun k => spec_IsValidTransaction.f k a0 1 2 0 0 1000 a1 rs ws) b ∧ Ev (fun k => impl_isEntry.f k a0 a1 rs ws) b := by
  obtain ⟨wb, y1, hwi, hws, rfl⟩ := both_writes a0 1 2 0 0 1000 a1 rs ws hw
  obtain ⟨x, y, hri, hrs, rb, rfl, rfl⟩ := both_reads a0 1 2 0 0 1000 a1 rs ws hl _ hws
  refine ⟨_, hrs, ?_⟩
  have heq : (rb && (wb && tailOf a0 1 2 0 0 1000 a1 (rs.length : Int))) = ((decide (1 ≤ a0) && decide (a0 ≤ 9)) && ((decide (1 ≤ a1) && decide (a1 ≤ 999)) && ((rb && decide ((rs.length : Int) ≤ 60)) && wb))) := by
    have hst : ((((2 : Int) == 2) == decide (a1 > 0)) && (decide (0 ≤ a1) && decide (a1 ≤ 999))) = (decide (1 ≤ a1) && decide (a1 ≤ 999)) := by
      by_cases d1 : 1 ≤ a1
      · have d0 : a1 > 0 := by omega
        have d3 : 0 ≤ a1 := by omega
        simp [d1, d0, d3]
      · have d0 : ¬ a1 > 0 := by omega
        simp [d1, d0]
    have hx : tailOf a0 1 2 0 0 1000 a1 (rs.length : Int) = ((decide (1 ≤ a0) && decide (a0 ≤ 9)) && ((decide (1 ≤ a1) && decide (a1 ≤ 999)) && decide ((rs.length : Int) ≤ 60))) := by
      rw [← hst]
      unfold tailOf
      simp [Bool.and_assoc]
    rw [hx]
    cases rb <;> cases wb <;> simp
  rw [heq]
  unfold impl_isEntry.f
  simp only [impl_isID.f, impl_IsStamp.f, in_eq, Option.bind_some]
  cases (decide (1 ≤ a0) && decide (a0 ≤ 9))
  · simp only [Bool.false_eq_true, if_false, Bool.false_and]; exact Ev.now _
  simp only [if_true, Bool.true_and]
  cases (decide (1 ≤ a1) && decide (a1 ≤ 999))
  · simp only [Bool.false_eq_true, if_false, Bool.false_and]; exact Ev.now _
  simp only [if_true, Bool.true_and]
  refine Ev.bind hri ?_
  cases (rb && decide ((rs.length : Int) ≤ 60))
  · simp only [Bool.false_eq_true, if_false, Bool.false_and]; exact Ev.now _
  · simp only [if_true, Bool.true_and]; exact Ev.bind hwi (Ev.now _)
theorem find_both (l : List S53) (hl : l.length ≤ 1048576) (i : Nat) (hi : i < l.length) :
    ∃ r q, Ev (fun k => spec_FindEntry.f k (l.take i) (rd_T53 l (i : Int)).f0) r ∧ Ev (fun k => impl_FindEntry.f k l (rd_T53 l (i : Int)).f0) q ∧ decide (r ≥ 0) = (q != (i : Int)) := by
  have hlen : (l.take i).length = i := by rw [List.length_take]; omega
  have h : ∃ r q, Ev (fun k => spec_FindEntry.l0 k (l.take i) (rd_T53 l (i : Int)).f0 ((0 : Nat) : Int)) r ∧ Ev (fun k => impl_Entry.l0 k l (l.length : Int) ((0 : Nat) : Int) (rd_T53 l (i : Int)).f0) q ∧ decide (r ≥ 0) = (q != (i : Int)) := by
    refine ev_two (σ := Unit) (τ := Unit) (fun _ j k => spec_FindEntry.l0 k (l.take i) (rd_T53 l (i : Int)).f0 (j : Int)) (fun _ j k => impl_Entry.l0 k l (l.length : Int) (j : Int) (rd_T53 l (i : Int)).f0) i (fun _ _ _ => True) (fun r q => decide (r ≥ 0) = (q != (i : Int))) ?_ ?_ () () 0 (Nat.zero_le _) trivial
    · intro _ _ j hj _ ih
      have h1 : (j : Int) < (l.length : Int) := by omega
      have h2 : (j : Int) < ((l.take i).length : Int) := by rw [hlen]; omega
      have e0 := wrap_up (show j < l.length by omega) (by omega)
      have hrd : rd_T53 (l.take i) (j : Int) = rd_T53 l (j : Int) := by
        have g1 : j < l.length := by omega
        have g2 : j < (l.take i).length := by omega
        simp [rd_T53, g1, hj]
      by_cases c : (rd_T53 l (j : Int)).f0 = (rd_T53 l (i : Int)).f0
      · refine ⟨(j : Int), (j : Int), Ev.succ ?_, Ev.succ ?_, ?_⟩
        · simp only [spec_FindEntry.l0, h2, hrd, c, Int.natCast_nonneg, if_true]; exact Ev.now _
        · simp only [impl_Entry.l0, impl_FindEntry_1.f, h1, c, beq_self_eq_true, Int.natCast_nonneg, if_true, Option.bind_some]; exact Ev.now _
        · have d1 : (j : Int) ≥ 0 := by omega
          have d2 : (j : Int) ≠ (i : Int) := by omega
          simp [d1, d2]
      · obtain ⟨r, q, hs, ht, hR⟩ := ih () () trivial
        have cb : ((rd_T53 l (j : Int)).f0 == (rd_T53 l (i : Int)).f0) = false := by simpa using c
        refine ⟨r, q, Ev.succ ?_, Ev.succ ?_, hR⟩
        · simp only [spec_FindEntry.l0, h2, hrd, c, e0, Int.natCast_nonneg, if_true, if_false]; exact hs
        · simp only [impl_Entry.l0, impl_FindEntry_1.f, h1, cb, e0, Int.natCast_nonneg, if_true, if_false, Option.bind_some, Bool.false_eq_true]; exact ht
    · intro _ _ _
      have h1 : (i : Int) < (l.length : Int) := by omega
      have h2 : ¬ (i : Int) < ((l.take i).length : Int) := by rw [hlen]; omega
      refine ⟨-1, (i : Int), Ev.succ ?_, Ev.succ ?_, by simp⟩
      · simp only [spec_FindEntry.l0, h2, if_false]; exact Ev.now _
      · simp only [impl_Entry.l0, impl_FindEntry_1.f, h1, beq_self_eq_true, Int.natCast_nonneg, if_true, Option.bind_some]; exact Ev.now _
  obtain ⟨r, q, h1, h2, hR⟩ := h
  refine ⟨r, q, h1, ?_, hR⟩
  unfold impl_FindEntry.f impl_Entry.f
  exact Ev.bind h2 (Ev.now _)
theorem hist2 (l : List S53) (hl : l.length ≤ 1048576) (hn : ∀ e ∈ l, fitd_Entry e) : ∃ x y, Ev (fun k => spec_IsHistory.l1 k l ((0 : Nat) : Int)) x ∧ Ev (fun k => impl_IsHistory.l1 k l l (l.length : Int) ((0 : Nat) : Int)) y ∧ x = (y && decide ((l.length : Int) ≤ 9)) := by
  refine ev_two (σ := Unit) (τ := Unit) (fun _ i k => spec_IsHistory.l1 k l (i : Int)) (fun _ i k => impl_IsHistory.l1 k l l (l.length : Int) (i : Int)) l.length (fun _ _ _ => True) (fun x y => x = (y && decide ((l.length : Int) ≤ 9))) ?_ ?_ () () 0 (Nat.zero_le _) trivial
  · intro _ _ i hi _ ih
    have h1 : (i : Int) < (l.length : Int) := by omega
    have e0 := wrap_up hi (by omega)
    obtain ⟨x, y, hs, ht, hR⟩ := ih () () trivial
    have hrd : rd_T53 l (i : Int) = l[i] := by simp [rd_T53, hi]
    have hf := (hn _ (List.getElem_mem hi)).1
    rw [← hrd] at hf
    have inner : ∃ x y, Ev (fun k => spec_IsHistory.l2 k l (i : Int) ((0 : Nat) : Int)) x ∧ Ev (fun k => impl_IsHistory.l2 k l l (l.length : Int) (i : Int) (rd_T53 l (i : Int)).f2 ((rd_T53 l (i : Int)).f2.length : Int) ((0 : Nat) : Int) (rd_T53 l (i : Int)).f0 (rd_T53 l (i : Int)).f1 (rd_T53 l (i : Int)).f2 (rd_T53 l (i : Int)).f3) y ∧ x = (y && decide ((l.length : Int) ≤ 9)) := by
      refine ev_two (σ := Unit) (τ := Unit) (fun _ j k => spec_IsHistory.l2 k l (i : Int) (j : Int)) (fun _ j k => impl_IsHistory.l2 k l l (l.length : Int) (i : Int) (rd_T53 l (i : Int)).f2 ((rd_T53 l (i : Int)).f2.length : Int) (j : Int) (rd_T53 l (i : Int)).f0 (rd_T53 l (i : Int)).f1 (rd_T53 l (i : Int)).f2 (rd_T53 l (i : Int)).f3) (rd_T53 l (i : Int)).f2.length (fun _ _ _ => True) (fun x y => x = (y && decide ((l.length : Int) ≤ 9))) ?_ ?_ () () 0 (Nat.zero_le _) trivial
      · intro _ _ j hj _ ih2
        have h2 : (j : Int) < ((rd_T53 l (i : Int)).f2.length : Int) := by omega
        have e1 := wrap_up hj (by omega)
        obtain ⟨x2, y2, hs2, ht2, hR2⟩ := ih2 () () trivial
        obtain ⟨w, ew, ew', _⟩ := both_WriterOf l (rd_T55 (rd_T53 l (i : Int)).f2 (j : Int)).f0 (rd_T55 (rd_T53 l (i : Int)).f2 (j : Int)).f1 hl hn
        have jS : ∀ t : Bool, Ev (fun k => spec_IsHistory.j5 k l (i : Int) (j : Int) t) (!t && x2) := by
          intro t
          apply Ev.succ
          cases t
          · simp only [spec_IsHistory.j5, Bool.false_eq_true, if_false, e1, Bool.not_false, Bool.true_and]; exact hs2
          · simp only [spec_IsHistory.j5, if_true, Bool.not_true, Bool.false_and]; exact Ev.now _
        have jI : ∀ t : Bool, Ev (fun k => impl_IsHistory.j5 k l l (l.length : Int) (i : Int) (rd_T53 l (i : Int)).f2 ((rd_T53 l (i : Int)).f2.length : Int) (j : Int) t (rd_T53 l (i : Int)).f0 (rd_T53 l (i : Int)).f1 (rd_T53 l (i : Int)).f2 (rd_T53 l (i : Int)).f3) (!t && y2) := by
          intro t
          apply Ev.succ
          cases t
          · simp only [impl_IsHistory.j5, Bool.false_eq_true, if_false, e1, Bool.not_false, Bool.true_and]; exact ht2
          · simp only [impl_IsHistory.j5, if_true, Bool.not_true, Bool.false_and]; exact Ev.now _
        have fin : ∀ t : Bool, (!t && x2) = ((!t && y2) && decide ((l.length : Int) ≤ 9)) := by intro t; rw [hR2, Bool.and_assoc]
        by_cases c : w = (rd_T53 l (i : Int)).f0
        · refine ⟨_, _, Ev.succ ?_, Ev.succ ?_, fin true⟩
          · simp only [spec_IsHistory.l2, Int.natCast_nonneg, h1, h2, if_true]
            refine Ev.bind ew ?_
            simp only [c, if_true]; exact jS true
          · simp only [impl_IsHistory.l2, Int.natCast_nonneg, h2, if_true]
            refine Ev.bind ew' ?_
            simp only [c, if_true]; exact jI true
        by_cases d : (rd_T55 (rd_T53 l (i : Int)).f2 (j : Int)).f1 > 0
        · refine ⟨_, _, Ev.succ ?_, Ev.succ ?_, fin (w == 0)⟩
          · simp only [spec_IsHistory.l2, Int.natCast_nonneg, h1, h2, if_true]
            refine Ev.bind ew ?_
            simp only [c, d, if_true, if_false]; exact jS _
          · simp only [impl_IsHistory.l2, Int.natCast_nonneg, h2, if_true]
            refine Ev.bind ew' ?_
            simp only [c, d, if_true, if_false]; exact jI _
        · refine ⟨_, _, Ev.succ ?_, Ev.succ ?_, fin false⟩
          · simp only [spec_IsHistory.l2, Int.natCast_nonneg, h1, h2, if_true]
            refine Ev.bind ew ?_
            simp only [c, d, if_false]; exact jS false
          · simp only [impl_IsHistory.l2, Int.natCast_nonneg, h2, if_true]
            refine Ev.bind ew' ?_
            simp only [c, d, if_false]; exact jI false
      · intro _ _ _
        refine ⟨x, y, Ev.succ ?_, Ev.succ ?_, hR⟩
        · simp only [spec_IsHistory.l2, h1, e0, Int.natCast_nonneg, Int.lt_irrefl, if_true, if_false]; exact hs
        · simp only [impl_IsHistory.l2, e0, Int.lt_irrefl, if_false]; exact ht
    obtain ⟨x, y, g1, g2, g3⟩ := inner
    refine ⟨x, y, Ev.succ ?_, Ev.succ ?_, g3⟩
    · simp only [spec_IsHistory.l1, h1, if_true]; exact g1
    · simp only [impl_IsHistory.l1, h1, Int.natCast_nonneg, if_true]; exact g2
  · intro _ _ _
    refine ⟨decide ((l.length : Int) ≤ 9), true, Ev.succ ?_, Ev.succ ?_, by simp⟩
    · simp only [spec_IsHistory.l1, Int.lt_irrefl, if_false]; exact Ev.now _
    · simp only [impl_IsHistory.l1, Int.lt_irrefl, if_false]; exact Ev.now _
theorem hist1 (l : List S53) (hl : l.length ≤ 1048576) (hn : ∀ e ∈ l, fitd_Entry e) : ∃ x y, Ev (fun k => spec_IsHistory.l0 k l ((0 : Nat) : Int)) x ∧ Ev (fun k => impl_IsHistory.l0 k l l (l.length : Int) ((0 : Nat) : Int)) y ∧ x = (y && decide ((l.length : Int) ≤ 9)) := by
  obtain ⟨u, v, hu, hv, huv⟩ := hist2 l hl hn
  refine ev_two (σ := Unit) (τ := Unit) (fun _ i k => spec_IsHistory.l0 k l (i : Int)) (fun _ i k => impl_IsHistory.l0 k l l (l.length : Int) (i : Int)) l.length (fun _ _ _ => True) (fun x y => x = (y && decide ((l.length : Int) ≤ 9))) ?_ ?_ () () 0 (Nat.zero_le _) trivial
  · intro _ _ i hi _ ih
    have h1 : (i : Int) < (l.length : Int) := by omega
    have hil : (i : Int) ≤ (l.length : Int) := by omega
    have e0 := wrap_up hi (by omega)
    obtain ⟨x, y, hs, ht, hR⟩ := ih () () trivial
    have hrd : rd_T53 l (i : Int) = l[i] := by simp [rd_T53, hi]
    have hf := hn _ (List.getElem_mem hi)
    rw [← hrd] at hf
    obtain ⟨bv, eb, eb'⟩ := both_isEntry (rd_T53 l (i : Int)).f0 (rd_T53 l (i : Int)).f1 (rd_T53 l (i : Int)).f2 (rd_T53 l (i : Int)).f3 hf.1 hf.2
    obtain ⟨r, q, er, eq, hF⟩ := find_both l hl i hi
    have j2S : ∀ t : Bool, Ev (fun k => spec_IsHistory.j2 k l (i : Int) t) (!t && x) := by
      intro t
      apply Ev.succ
      cases t
      · simp only [spec_IsHistory.j2, Bool.false_eq_true, if_false, e0, Bool.not_false, Bool.true_and]; exact hs
      · simp only [spec_IsHistory.j2, if_true, Bool.not_true, Bool.false_and]; exact Ev.now _
    have j2I : ∀ t : Bool, Ev (fun k => impl_IsHistory.j2 k l (i : Int) l (l.length : Int) t) (!t && y) := by
      intro t
      apply Ev.succ
      cases t
      · simp only [impl_IsHistory.j2, Bool.false_eq_true, if_false, e0, Bool.not_false, Bool.true_and]; exact ht
      · simp only [impl_IsHistory.j2, if_true, Bool.not_true, Bool.false_and]; exact Ev.now _
    have j1 : ∃ t2 : Bool, (∀ t : Bool, Ev (fun k => spec_IsHistory.j1 k l (i : Int) t) (!t && (!t2 && x))) ∧ (∀ t : Bool, Ev (fun k => impl_IsHistory.j1 k l (i : Int) l (l.length : Int) t (rd_T53 l (i : Int)).f0 (rd_T53 l (i : Int)).f1 (rd_T53 l (i : Int)).f2 (rd_T53 l (i : Int)).f3) (!t && (!t2 && y))) := by
      by_cases c5 : 0 < i
      · have e1 : wrap64 ((i : Int) - 1) = ((i - 1 : Nat) : Int) := wrap_down c5 (by omega)
        have h2 : ((i - 1 : Nat) : Int) < (l.length : Int) := by omega
        have h3 : (i : Int) > 0 := by omega
        refine ⟨if (rd_T53 l ((i - 1 : Nat) : Int)).f1 > (rd_T53 l (i : Int)).f1 then true else if (rd_T53 l ((i - 1 : Nat) : Int)).f1 = (rd_T53 l (i : Int)).f1 then decide (((rd_T53 l (i : Int)).f3.length : Int) > 0) else false, ?_, ?_⟩
        · intro t
          apply Ev.succ
          cases t
          · by_cases d1 : (rd_T53 l ((i - 1 : Nat) : Int)).f1 > (rd_T53 l (i : Int)).f1
            · simp only [spec_IsHistory.j1, Bool.false_eq_true, if_false, if_true, h3, e1, h2, h1, d1, Int.natCast_nonneg, Bool.not_false, Bool.true_and]; exact j2S true
            · by_cases d2 : (rd_T53 l ((i - 1 : Nat) : Int)).f1 = (rd_T53 l (i : Int)).f1
              · have d1' : ¬ (rd_T53 l (i : Int)).f1 > (rd_T53 l (i : Int)).f1 := by omega
                simp only [spec_IsHistory.j1, Bool.false_eq_true, if_false, if_true, h3, e1, h2, h1, d1', d2, Int.natCast_nonneg, Bool.not_false, Bool.true_and]; exact j2S _
              · simp only [spec_IsHistory.j1, Bool.false_eq_true, if_false, if_true, h3, e1, h2, h1, d1, d2, Int.natCast_nonneg, Bool.not_false, Bool.true_and]; exact j2S false
          · simp only [spec_IsHistory.j1, if_true, Bool.not_true, Bool.false_and]; exact Ev.now _
        · intro t
          apply Ev.succ
          cases t
          · by_cases d1 : (rd_T53 l ((i - 1 : Nat) : Int)).f1 > (rd_T53 l (i : Int)).f1
            · have d1' : (rd_T53 l (i : Int)).f1 < (rd_T53 l ((i - 1 : Nat) : Int)).f1 := d1
              simp only [impl_IsHistory.j1, Bool.false_eq_true, if_false, if_true, h3, e1, h2, d1, d1', Int.natCast_nonneg, Bool.not_false, Bool.true_and]; exact j2I true
            · by_cases d2 : (rd_T53 l ((i - 1 : Nat) : Int)).f1 = (rd_T53 l (i : Int)).f1
              · have d1' : ¬ (rd_T53 l (i : Int)).f1 < (rd_T53 l (i : Int)).f1 := by omega
                have d1'' : ¬ (rd_T53 l (i : Int)).f1 > (rd_T53 l (i : Int)).f1 := by omega
                simp only [impl_IsHistory.j1, Bool.false_eq_true, if_false, if_true, h3, e1, h2, d1', d1'', d2, Int.natCast_nonneg, Bool.not_false, Bool.true_and]; exact j2I _
              · have d1' : ¬ (rd_T53 l (i : Int)).f1 < (rd_T53 l ((i - 1 : Nat) : Int)).f1 := by omega
                have d2' : ¬ (rd_T53 l (i : Int)).f1 = (rd_T53 l ((i - 1 : Nat) : Int)).f1 := fun e => d2 e.symm
                simp only [impl_IsHistory.j1, Bool.false_eq_true, if_false, if_true, h3, e1, h2, d1, d1', d2, d2', Int.natCast_nonneg, Bool.not_false, Bool.true_and]; exact j2I false
          · simp only [impl_IsHistory.j1, if_true, Bool.not_true, Bool.false_and]; exact Ev.now _
      · have h3 : ¬ ((i : Int) > 0) := by omega
        refine ⟨false, ?_, ?_⟩
        · intro t
          apply Ev.succ
          cases t
          · rw [show (!false && (!false && x)) = x from by simp]
            have := j2S false
            simp only [spec_IsHistory.j1, Bool.false_eq_true, if_false, h3]
            simpa using this
          · simp only [spec_IsHistory.j1, if_true, Bool.not_true, Bool.false_and]; exact Ev.now _
        · intro t
          apply Ev.succ
          cases t
          · rw [show (!false && (!false && y)) = y from by simp]
            have := j2I false
            simp only [impl_IsHistory.j1, Bool.false_eq_true, if_false, h3]
            simpa using this
          · simp only [impl_IsHistory.j1, if_true, Bool.not_true, Bool.false_and]; exact Ev.now _
    obtain ⟨t2, jS, jI⟩ := j1
    have fin : ∀ t : Bool, (!t && (!t2 && x)) = ((!t && (!t2 && y)) && decide ((l.length : Int) ≤ 9)) := by intro t; rw [hR, Bool.and_assoc, Bool.and_assoc]
    by_cases hb : bv = true
    · refine ⟨_, _, Ev.succ ?_, Ev.succ ?_, fin (q != (i : Int))⟩
      · simp only [spec_IsHistory.l0, spec_l18Tx.f, h1, Int.natCast_nonneg, if_true, Option.bind_some]
        refine Ev.bind eb ?_
        simp only [hb, hil, if_true, Int.toNat_natCast]
        refine Ev.bind er ?_
        rw [hF]; exact jS _
      · simp only [impl_IsHistory.l0, h1, Int.natCast_nonneg, if_true]
        refine Ev.bind eb' ?_
        simp only [hb, if_true]
        refine Ev.bind eq ?_
        exact jI _
    · refine ⟨_, _, Ev.succ ?_, Ev.succ ?_, fin true⟩
      · simp only [spec_IsHistory.l0, spec_l18Tx.f, h1, Int.natCast_nonneg, if_true, Option.bind_some]
        refine Ev.bind eb ?_
        simp only [hb, if_false]; exact jS true
      · simp only [impl_IsHistory.l0, h1, Int.natCast_nonneg, if_true]
        refine Ev.bind eb' ?_
        simp only [hb, if_false]; exact jI true
  · intro _ _ _
    refine ⟨u, v, Ev.succ ?_, Ev.succ ?_, huv⟩
    · simp only [spec_IsHistory.l0, Int.lt_irrefl, if_false]; exact hu
    · simp only [impl_IsHistory.l0, Int.lt_irrefl, if_false]; exact hv
theorem both_IsHistory (l : List S53) (hl : l.length ≤ 1048576) (hn : ∀ e ∈ l, fitd_Entry e) : ∃ r, Ev (fun k => spec_IsHistory.f k l) r ∧ Ev (fun k => impl_IsHistory.f k l) r ∧ True := by
  obtain ⟨x, y, h1, h2, hR⟩ := hist1 l hl hn
  by_cases c : (l.length : Int) > 9
  · have d : ¬ (l.length : Int) ≤ 9 := by omega
    have hx : x = false := by rw [hR]; simp [d]
    subst hx
    refine ⟨false, h1, ?_, trivial⟩
    unfold impl_IsHistory.f
    simp only [c, if_true]; exact Ev.now _
  · have d : (l.length : Int) ≤ 9 := by omega
    have hx : x = y := by rw [hR]; simp [d]
    subst hx
    refine ⟨x, h1, ?_, trivial⟩
    unfold impl_IsHistory.f
    simp only [c, if_false]; exact h2
def okR (m : S55) : Prop := 0 ≤ m.f0 ∧ m.f0 ≤ 5 ∧ 0 ≤ m.f1 ∧ m.f1 ≤ 999
def okW (w : S57) : Prop := 0 ≤ w.f0 ∧ w.f0 ≤ 5 ∧ -1 ≤ w.f1 ∧ w.f1 ≤ 99
def okE (e : S53) : Prop := (1 ≤ e.f0 ∧ e.f0 ≤ 9) ∧ (1 ≤ e.f1 ∧ e.f1 ≤ 999) ∧ e.f2.length ≤ 60 ∧ (∀ m ∈ e.f2, okR m) ∧ (∀ w ∈ e.f3, okW w) ∧ e.f3.length ≤ 6
theorem two_true {p q : Prop} [Decidable p] [Decidable q] (h : (decide p && decide q) = true) : p ∧ q := by
  rw [Bool.and_eq_true] at h
  exact ⟨of_decide_eq_true h.1, of_decide_eq_true h.2⟩
theorem reads_ok : ∀ (k : Nat) (x : List S55) (i : Nat), x.length ≤ 1048576 → impl_areReads.l0 k x x (x.length : Int) (i : Int) = some true → x.length ≤ 60 ∧ ∀ j (hj : j < x.length), i ≤ j → okR x[j] := by
  intro k
  induction k using Nat.strongRecOn with
  | _ k ih =>
  intro x i hx h
  cases k with
  | zero => exact absurd h (by simp [impl_areReads.l0])
  | succ k =>
  have good : ∀ m b, impl_areReads.j1 m x (i : Int) x (x.length : Int) b = some true → ∃ m', m = m' + 1 ∧ b = false ∧ impl_areReads.l0 m' x x (x.length : Int) (wrap64 ((i : Int) + 1)) = some true := by
    intro m b hj
    cases m with
    | zero => exact absurd hj (by simp [impl_areReads.j1])
    | succ m =>
      simp only [impl_areReads.j1] at hj
      cases b
      · exact ⟨m, rfl, rfl, by simpa using hj⟩
      · exact absurd hj (by simp)
  simp only [impl_areReads.l0] at h
  by_cases hi : i < x.length
  · have h1 : (i : Int) < (x.length : Int) := by omega
    have hrd : rd_T55 x (i : Int) = x[i] := by simp [rd_T55, hi]
    simp only [h1, Int.natCast_nonneg, if_true, hrd, impl_isKey.f, in_eq, Option.bind_some] at h
    by_cases c1 : (decide (0 ≤ x[i].f0) && decide (x[i].f0 ≤ 5)) = true
    rotate_left
    · rw [if_neg c1] at h; obtain ⟨_, _, e, _⟩ := good _ _ h; cases e
    rw [if_pos c1] at h
    by_cases c2 : (decide (0 ≤ x[i].f1) && decide (x[i].f1 ≤ 999)) = true
    rotate_left
    · rw [if_neg c2] at h; obtain ⟨_, _, e, _⟩ := good _ _ h; cases e
    rw [if_pos c2] at h
    have hg : ∃ b, impl_areReads.j1 k x (i : Int) x (x.length : Int) b = some true := by
      split at h
      · split at h
        · split at h
          · obtain ⟨t, _, h⟩ := Option.bind_eq_some_iff.mp h; exact ⟨_, h⟩
          · exact absurd h (by simp)
        · exact absurd h (by simp)
      · exact ⟨_, h⟩
    obtain ⟨b, hg⟩ := hg
    obtain ⟨m', rfl, _, h'⟩ := good _ _ hg
    rw [wrap_up hi (by omega)] at h'
    obtain ⟨h60, hr⟩ := ih m' (by omega) x (i + 1) hx h'
    refine ⟨h60, fun j hj hij => ?_⟩
    rcases Nat.eq_or_lt_of_le hij with rfl | hlt
    · obtain ⟨a, b⟩ := two_true c1; obtain ⟨c, d⟩ := two_true c2; exact ⟨a, b, c, d⟩
    · exact hr j hj hlt
  · have h1 : ¬ (i : Int) < (x.length : Int) := by omega
    simp only [h1, if_false, Option.some.injEq, decide_eq_true_eq] at h
    exact ⟨by omega, fun j hj hij => by omega⟩
theorem writes_ok : ∀ (k : Nat) (x : List S57) (i : Nat), x.length ≤ 1048576 → impl_areWrites.l0 k x x (x.length : Int) (i : Int) = some true → ∀ j (hj : j < x.length), i ≤ j → okW x[j] ∧ ∀ h0 : 0 < j, x[j - 1].f0 < x[j].f0 := by
  intro k
  induction k using Nat.strongRecOn with
  | _ k ih =>
  intro x i hx h
  cases k with
  | zero => exact absurd h (by simp [impl_areWrites.l0])
  | succ k =>
  have good : ∀ m b, impl_areWrites.j1 m x (i : Int) x (x.length : Int) b = some true → ∃ m', m = m' + 1 ∧ b = false ∧ impl_areWrites.l0 m' x x (x.length : Int) (wrap64 ((i : Int) + 1)) = some true := by
    intro m b hj
    cases m with
    | zero => exact absurd hj (by simp [impl_areWrites.j1])
    | succ m =>
      simp only [impl_areWrites.j1] at hj
      cases b
      · exact ⟨m, rfl, rfl, by simpa using hj⟩
      · exact absurd hj (by simp)
  simp only [impl_areWrites.l0] at h
  by_cases hi : i < x.length
  · have h1 : (i : Int) < (x.length : Int) := by omega
    have hrd : rd_T57 x (i : Int) = x[i] := by simp [rd_T57, hi]
    simp only [h1, Int.natCast_nonneg, if_true, hrd, impl_isKey.f, impl_isValue.f, in_eq, Option.bind_some] at h
    by_cases c1 : (decide (0 ≤ x[i].f0) && decide (x[i].f0 ≤ 5)) = true
    rotate_left
    · rw [if_neg c1] at h; obtain ⟨_, _, e, _⟩ := good _ _ h; cases e
    rw [if_pos c1] at h
    by_cases c2 : (decide (-1 ≤ x[i].f1) && decide (x[i].f1 ≤ 99)) = true
    rotate_left
    · rw [if_neg c2] at h; obtain ⟨_, _, e, _⟩ := good _ _ h; cases e
    rw [if_pos c2] at h
    have hg : ∃ b, impl_areWrites.j1 k x (i : Int) x (x.length : Int) b = some true ∧ (b = false → ∀ h0 : 0 < i, x[i - 1].f0 < x[i].f0) := by
      by_cases h0 : 0 < i
      · have h2 : (i : Int) > 0 := by omega
        have hw : wrap64 ((i : Int) - 1) = ((i - 1 : Nat) : Int) := wrap_down h0 (by omega)
        have h3 : ((i - 1 : Nat) : Int) < (x.length : Int) := by omega
        have hlt : i - 1 < x.length := by omega
        have hr1 : rd_T57 x ((i - 1 : Nat) : Int) = x[i - 1] := by simp [rd_T57, hlt]
        simp only [h2, hw, h3, hr1, Int.natCast_nonneg, if_true] at h
        refine ⟨_, h, fun hb _ => ?_⟩
        have := of_decide_eq_false hb
        omega
      · have h2 : ¬ (i : Int) > 0 := by omega
        simp only [h2, if_false] at h
        exact ⟨_, h, fun _ h' => absurd h' h0⟩
    obtain ⟨b, hg, hinc⟩ := hg
    obtain ⟨m', rfl, rfl, h'⟩ := good _ _ hg
    rw [wrap_up hi (by omega)] at h'
    have hr := ih m' (by omega) x (i + 1) hx h'
    intro j hj hij
    rcases Nat.eq_or_lt_of_le hij with rfl | hlt
    · obtain ⟨a, b⟩ := two_true c1; obtain ⟨c, d⟩ := two_true c2; exact ⟨⟨a, b, c, d⟩, hinc rfl⟩
    · exact hr j hj hlt
  · intro j hj hij
    omega
theorem writes_six (x : List S57) (h : ∀ j (hj : j < x.length), okW x[j] ∧ ∀ h0 : 0 < j, x[j - 1].f0 < x[j].f0) : x.length ≤ 6 := by
  have key : ∀ j (hj : j < x.length), (j : Int) ≤ x[j].f0 := by
    intro j
    induction j with
    | zero => intro hj; have := (h 0 hj).1.1; simpa using this
    | succ j ih =>
      intro hj
      have h1 := ih (by omega)
      have h2 := (h (j + 1) hj).2 (by omega)
      simp only [Nat.add_sub_cancel] at h2
      push_cast
      omega
  by_cases hl : x.length ≤ 6
  · exact hl
  · have h1 := key 6 (by omega)
    have h2 := (h 6 (by omega)).1.2.1
    omega
theorem entry_ok (k : Nat) (a0 a1 : Int) (rs : List S55) (ws : List S57) (hl : rs.length ≤ 1048576) (hw : ws.length ≤ 1048576) (h : impl_isEntry.f k a0 a1 rs ws = some true) : (1 ≤ a0 ∧ a0 ≤ 9) ∧ (1 ≤ a1 ∧ a1 ≤ 999) ∧ rs.length ≤ 60 ∧ (∀ m ∈ rs, okR m) ∧ (∀ w ∈ ws, okW w) ∧ ws.length ≤ 6 := by
  unfold impl_isEntry.f at h
  simp only [impl_isID.f, impl_IsStamp.f, in_eq, Option.bind_some] at h
  by_cases c1 : (decide (1 ≤ a0) && decide (a0 ≤ 9)) = true
  rotate_left
  · rw [if_neg c1] at h; exact absurd h (by simp)
  rw [if_pos c1] at h
  by_cases c2 : (decide (1 ≤ a1) && decide (a1 ≤ 999)) = true
  rotate_left
  · rw [if_neg c2] at h; exact absurd h (by simp)
  rw [if_pos c2] at h
  obtain ⟨t, hr, h⟩ := Option.bind_eq_some_iff.mp h
  cases t
  · exact absurd h (by simp)
  simp only [if_true] at h
  obtain ⟨t, hwr, h⟩ := Option.bind_eq_some_iff.mp h
  obtain rfl : t = true := by simpa using h
  obtain ⟨h60, hro⟩ := reads_ok k rs 0 hl hr
  have hwo := writes_ok k ws 0 hw hwr
  refine ⟨two_true c1, two_true c2, h60, fun m hm => ?_, fun w hm => ?_, writes_six ws (fun j hj => hwo j hj (Nat.zero_le _))⟩
  · obtain ⟨j, hj, rfl⟩ := List.mem_iff_getElem.mp hm
    exact hro j hj (Nat.zero_le _)
  · obtain ⟨j, hj, rfl⟩ := List.mem_iff_getElem.mp hm
    exact (hwo j hj (Nat.zero_le _)).1
theorem hist_l0 : ∀ (k : Nat) (x : List S53) (i : Nat), x.length ≤ 1048576 → (∀ e ∈ x, fitd_Entry e) → impl_IsHistory.l0 k x x (x.length : Int) (i : Int) = some true → ∀ j (hj : j < x.length), i ≤ j → okE x[j] := by
  intro k
  induction k using Nat.strongRecOn with
  | _ k ih =>
  intro x i hx hn h
  cases k with
  | zero => exact absurd h (by simp [impl_IsHistory.l0])
  | succ k =>
  by_cases hi : i < x.length
  rotate_left
  · intro j hj hij; omega
  have good2 : ∀ m b, impl_IsHistory.j2 m x (i : Int) x (x.length : Int) b = some true → ∃ m', m' < m ∧ impl_IsHistory.l0 m' x x (x.length : Int) (wrap64 ((i : Int) + 1)) = some true := by
    intro m b hj
    cases m with
    | zero => exact absurd hj (by simp [impl_IsHistory.j2])
    | succ m =>
      simp only [impl_IsHistory.j2] at hj
      cases b
      · exact ⟨m, by omega, by simpa using hj⟩
      · exact absurd hj (by simp)
  have good : ∀ m b (a0 a1 : Int) rs ws, impl_IsHistory.j1 m x (i : Int) x (x.length : Int) b a0 a1 rs ws = some true → b = false ∧ ∃ m', m' < m ∧ impl_IsHistory.l0 m' x x (x.length : Int) (wrap64 ((i : Int) + 1)) = some true := by
    intro m b a0 a1 rs ws hj
    cases m with
    | zero => exact absurd hj (by simp [impl_IsHistory.j1])
    | succ m =>
      simp only [impl_IsHistory.j1] at hj
      cases b
      · refine ⟨rfl, ?_⟩
        simp only [Bool.false_eq_true, if_false] at hj
        repeat' (split at hj)
        all_goals (try contradiction)
        all_goals (obtain ⟨m', h1, h2⟩ := good2 _ _ hj; exact ⟨m', by omega, h2⟩)
      · exact absurd hj (by simp)
  simp only [impl_IsHistory.l0] at h
  have h1 : (i : Int) < (x.length : Int) := by omega
  have hrd : rd_T53 x (i : Int) = x[i] := by simp [rd_T53, hi]
  simp only [h1, Int.natCast_nonneg, if_true, hrd] at h
  obtain ⟨t, he, h⟩ := Option.bind_eq_some_iff.mp h
  cases t
  · simp only [Bool.false_eq_true, if_false] at h
    obtain ⟨e, _⟩ := good _ _ _ _ _ _ h; cases e
  simp only [if_true] at h
  obtain ⟨t, _, h⟩ := Option.bind_eq_some_iff.mp h
  obtain ⟨_, m', hm', h'⟩ := good _ _ _ _ _ _ h
  rw [wrap_up hi (by omega)] at h'
  have hf := hn _ (List.getElem_mem hi)
  unfold fitd_Entry at hf
  intro j hj hij
  rcases Nat.eq_or_lt_of_le hij with rfl | hlt
  · exact entry_ok _ _ _ _ _ (by omega) (by omega) he
  · exact ih m' (by omega) x (i + 1) hx hn h' j hj hlt
theorem hist_ok (x : List S53) (hx : x.length ≤ 1048576) (hn : ∀ e ∈ x, fitd_Entry e) (h : Ev (fun k => impl_IsHistory.f k x) true) : x.length ≤ 9 ∧ ∀ e ∈ x, okE e := by
  obtain ⟨k, h⟩ := Ev.rounds h
  unfold impl_IsHistory.f at h
  by_cases c : (x.length : Int) > 9
  · rw [if_pos c] at h; exact absurd h (by simp)
  rw [if_neg c] at h
  refine ⟨by omega, fun e he => ?_⟩
  obtain ⟨j, hj, rfl⟩ := List.mem_iff_getElem.mp he
  exact hist_l0 k x 0 hx hn h j hj (Nat.zero_le _)
def tx (n : Int) : ByteArray := (impl_FormatInt.f n).getD ⟨#[]⟩
def vx (n : Int) : ByteArray := (impl_formatValue.f n).getD ⟨#[]⟩
theorem tx_spec (n : Int) (h0 : 0 ≤ n) (h1 : n < 1000) : Ev (fun k => spec_FormatInt.f k n) (tx n) ∧ impl_FormatInt.f n = some (tx n) ∧ (tx n).size ≤ 20 := by
  obtain ⟨m, rfl⟩ := Int.eq_ofNat_of_zero_le h0
  have hm : m < 1000 := by omega
  have key : ∀ i : Fin 1000, spec_FormatInt.f 6 ((i.val : Nat) : Int) = impl_FormatInt.f ((i.val : Nat) : Int) ∧ ((impl_FormatInt.f ((i.val : Nat) : Int)).elim false (fun t => decide (t.size ≤ 20))) = true := by decide +kernel
  obtain ⟨k1, k2⟩ := key ⟨m, hm⟩
  dsimp only at k1 k2
  cases hx : impl_FormatInt.f (m : Int) with
  | none => rw [hx] at k2; exact absurd k2 (by decide)
  | some t =>
    have he : tx (m : Int) = t := by unfold tx; rw [hx]; rfl
    rw [hx] at k1 k2; rw [he]; exact ⟨Ev.of (spec_FormatInt.mono _) k1, rfl, of_decide_eq_true k2⟩
theorem vx_spec (n : Int) (h0 : -1 ≤ n) (h1 : n < 1000) : Ev (fun k => spec_l3Value.f k n) (vx n) ∧ impl_formatValue.f n = some (vx n) ∧ (vx n).size ≤ 20 := by
  by_cases h : n = -1
  · subst h
    refine ⟨?_, rfl, by decide⟩
    unfold spec_l3Value.f
    simp only [if_true]; exact Ev.now _
  · obtain ⟨e, i, hs⟩ := tx_spec n (by omega) h1
    have hi : impl_formatValue.f n = some (tx n) := by unfold impl_formatValue.f; rw [if_neg h, i]; rfl
    have he : vx n = tx n := by unfold vx; rw [hi]; rfl
    rw [he]
    refine ⟨?_, hi, hs⟩
    unfold spec_l3Value.f
    simp only [if_neg h]
    exact Ev.bind e (Ev.now _)
theorem cat_data (a b : ByteArray) : (a ++ b).data.toList = a.data.toList ++ b.data.toList := by simp [ByteArray.data_append]
theorem len_data (a : ByteArray) : a.data.toList.length = a.size := Array.length_toList
theorem of_data (a : ByteArray) (x : List UInt8) (h : a.data.toList = x) : a = ⟨x.toArray⟩ := by
  subst h
  cases a; simp
theorem eq_data {a b : ByteArray} (h : a.data.toList = b.data.toList) : a = b := by rw [of_data a _ h, ← of_data b _ rfl]
theorem s1 (b : UInt8) : (⟨#[b]⟩ : ByteArray).size = 1 := rfl
theorem s2 (b c : UInt8) : (⟨#[b, c]⟩ : ByteArray).size = 2 := rfl
def JS (sep : List UInt8) (xs : List ByteArray) : List UInt8 := Lib.join (xs.map (·.data.toList)) sep
theorem JS_one (sep : List UInt8) (t : ByteArray) : JS sep ([] ++ [t]) = t.data.toList := by
  show Lib.join [t.data.toList] sep = _
  exact Lib.join_one _ _
theorem JS_snoc (sep : List UInt8) (xs : List ByteArray) (t : ByteArray) (h : 0 < xs.length) : JS sep (xs ++ [t]) = JS sep xs ++ sep ++ t.data.toList := by
  cases xs with
  | nil => exact absurd h (by simp)
  | cons x r =>
    unfold JS
    simp only [List.cons_append, List.map_cons, List.map_append, List.map_nil, Lib.join_cons]
    have := Lib.joinTail_take_succ sep (r.map (·.data.toList) ++ [t.data.toList]) r.length t.data.toList (by simp)
    have e1 : (r.map (·.data.toList) ++ [t.data.toList]).take (r.length + 1) = r.map (·.data.toList) ++ [t.data.toList] := List.take_of_length_le (by simp)
    have e2 : (r.map (·.data.toList) ++ [t.data.toList]).take r.length = r.map (·.data.toList) := by rw [List.take_append_of_le_length (by simp), List.take_of_length_le (by simp)]
    rw [e1, e2] at this
    rw [this]
    simp only [List.append_assoc]
theorem take_map {α : Type} (f : α → List UInt8) (l : List α) (i : Nat) (h : i < l.length) : ((l.take (i + 1)).map f).flatten = ((l.take i).map f).flatten ++ f l[i] := by
  rw [List.take_succ_eq_append_getElem h, List.map_append, List.flatten_append]
  simp
def rdT (m : S55) : List UInt8 := [32, 114] ++ (tx m.f0).data.toList ++ [58] ++ (tx m.f1).data.toList
def wrT (w : S57) : List UInt8 := [32, 119] ++ (tx w.f0).data.toList ++ [58] ++ (vx w.f1).data.toList
def acT (rs : List S55) (ws : List S57) : List UInt8 := (rs.map rdT).flatten ++ (ws.map wrT).flatten
theorem acc_l1 (ws : List S57) (hw : ws.length ≤ 1048576) (okw : ∀ w ∈ ws, okW w) (s0 : ByteArray) (hs0 : s0.size ≤ 1000000000) : ∃ r, Ev (fun k => impl_formatAccesses.l1 k s0 ws (ws.length : Int) ((0 : Nat) : Int)) r ∧ (r.data.toList = s0.data.toList ++ (ws.map wrT).flatten ∧ r.size ≤ s0.size + 50 * ws.length) := by
  refine ev_to (σ := ByteArray) (fun s i k => impl_formatAccesses.l1 k s ws (ws.length : Int) (i : Int)) ws.length (fun s i => s.data.toList = s0.data.toList ++ ((ws.take i).map wrT).flatten ∧ s.size ≤ s0.size + 50 * i) (fun r => r.data.toList = s0.data.toList ++ (ws.map wrT).flatten ∧ r.size ≤ s0.size + 50 * ws.length) ?_ ?_ s0 0 (Nat.zero_le _) ⟨by simp, by omega⟩
  · rintro s i hi ⟨hd, hs⟩ ih
    have h1 : (i : Int) < (ws.length : Int) := by omega
    have hrd : rd_T57 ws (i : Int) = ws[i] := by simp [rd_T57, hi]
    have ho := okw _ (List.getElem_mem hi)
    unfold okW at ho
    obtain ⟨_, i0, z0⟩ := tx_spec ws[i].f0 (by omega) (by omega)
    obtain ⟨_, i1, z1⟩ := vx_spec ws[i].f1 (by omega) (by omega)
    have q1 : 2 + (tx ws[i].f0).size ≤ 9223372036854775807 := by omega
    have q2 : ((⟨#[32, 119]⟩ : ByteArray) ++ tx ws[i].f0).size + 1 ≤ 9223372036854775807 := by simp only [ByteArray.size_append, s2]; omega
    have q3 : (((⟨#[32, 119]⟩ : ByteArray) ++ tx ws[i].f0) ++ (⟨#[58]⟩ : ByteArray)).size + (vx ws[i].f1).size ≤ 9223372036854775807 := by simp only [ByteArray.size_append, s1, s2]; omega
    have q4 : s.size + ((((⟨#[32, 119]⟩ : ByteArray) ++ tx ws[i].f0) ++ (⟨#[58]⟩ : ByteArray)) ++ vx ws[i].f1).size ≤ 140737488355328 := by simp only [ByteArray.size_append, s1, s2]; omega
    obtain ⟨r, hr, hR⟩ := ih (s ++ ((((⟨#[32, 119]⟩ : ByteArray) ++ tx ws[i].f0) ++ (⟨#[58]⟩ : ByteArray)) ++ vx ws[i].f1)) ⟨by
      rw [take_map wrT ws i hi, ← List.append_assoc, ← hd]
      simp only [cat_data, wrT], by simp only [ByteArray.size_append, s1, s2]; omega⟩
    refine ⟨r, Ev.succ ?_, hR⟩
    simp only [impl_formatAccesses.l1, h1, Int.natCast_nonneg, if_true, hrd, i0, i1, Option.bind_some, q1, q2, q3, strings_Builder_WriteString.f, q4, wrap_up hi (by omega)]
    exact hr
  · rintro s ⟨hd, hs⟩
    rw [List.take_length] at hd
    refine ⟨s, Ev.succ ?_, hd, hs⟩
    simp only [impl_formatAccesses.l1, Int.lt_irrefl, if_false, strings_Builder_String.f, Option.bind_some]; exact Ev.now _
theorem acc_impl (rs : List S55) (ws : List S57) (hr : rs.length ≤ 1048576) (hw : ws.length ≤ 1048576) (okr : ∀ m ∈ rs, okR m) (okw : ∀ w ∈ ws, okW w) : ∃ r, Ev (fun k => impl_formatAccesses.f k rs ws) r ∧ (r.data.toList = acT rs ws ∧ r.size ≤ 50 * rs.length + 50 * ws.length) := by
  unfold impl_formatAccesses.f
  refine ev_to (σ := ByteArray) (fun s i k => impl_formatAccesses.l0 k ws s rs (rs.length : Int) (i : Int)) rs.length (fun s i => s.data.toList = ((rs.take i).map rdT).flatten ∧ s.size ≤ 50 * i) (fun r => r.data.toList = acT rs ws ∧ r.size ≤ 50 * rs.length + 50 * ws.length) ?_ ?_ ⟨#[]⟩ 0 (Nat.zero_le _) ⟨rfl, by decide⟩
  · rintro s i hi ⟨hd, hs⟩ ih
    have h1 : (i : Int) < (rs.length : Int) := by omega
    have hrd : rd_T55 rs (i : Int) = rs[i] := by simp [rd_T55, hi]
    have ho := okr _ (List.getElem_mem hi)
    unfold okR at ho
    obtain ⟨_, i0, z0⟩ := tx_spec rs[i].f0 (by omega) (by omega)
    obtain ⟨_, i1, z1⟩ := tx_spec rs[i].f1 (by omega) (by omega)
    have q1 : 2 + (tx rs[i].f0).size ≤ 9223372036854775807 := by omega
    have q2 : ((⟨#[32, 114]⟩ : ByteArray) ++ tx rs[i].f0).size + 1 ≤ 9223372036854775807 := by simp only [ByteArray.size_append, s2]; omega
    have q3 : (((⟨#[32, 114]⟩ : ByteArray) ++ tx rs[i].f0) ++ (⟨#[58]⟩ : ByteArray)).size + (tx rs[i].f1).size ≤ 9223372036854775807 := by simp only [ByteArray.size_append, s1, s2]; omega
    have q4 : s.size + ((((⟨#[32, 114]⟩ : ByteArray) ++ tx rs[i].f0) ++ (⟨#[58]⟩ : ByteArray)) ++ tx rs[i].f1).size ≤ 140737488355328 := by simp only [ByteArray.size_append, s1, s2]; omega
    obtain ⟨r, hr, hR⟩ := ih (s ++ ((((⟨#[32, 114]⟩ : ByteArray) ++ tx rs[i].f0) ++ (⟨#[58]⟩ : ByteArray)) ++ tx rs[i].f1)) ⟨by
      rw [take_map rdT rs i hi, ← hd]
      simp only [cat_data, rdT], by simp only [ByteArray.size_append, s1, s2]; omega⟩
    refine ⟨r, Ev.succ ?_, hR⟩
    simp only [impl_formatAccesses.l0, h1, Int.natCast_nonneg, if_true, hrd, i0, i1, Option.bind_some, q1, q2, q3, strings_Builder_WriteString.f, q4, wrap_up hi (by omega)]
    exact hr
  · rintro s ⟨hd, hs⟩
    rw [List.take_length] at hd
    obtain ⟨r, hr, hR, hz⟩ := acc_l1 ws hw okw s (by omega)
    refine ⟨r, Ev.succ ?_, by rw [hR, hd]; rfl, by omega⟩
    simp only [impl_formatAccesses.l0, Int.lt_irrefl, if_false]; exact hr
theorem acc_spec (l : List S53) (i : Nat) (hi : i < l.length) (hlen : l.length ≤ 9) (hr : l[i].f2.length ≤ 1048576) (hw : l[i].f3.length ≤ 1048576) (okr : ∀ m ∈ l[i].f2, okR m) (okw : ∀ w ∈ l[i].f3, okW w) (s0 : ByteArray) (hs0 : s0.size ≤ 10000000000) (Q : ByteArray → Prop)
    (cont : ∀ y : ByteArray, y.data.toList = s0.data.toList ++ acT l[i].f2 l[i].f3 → y.size ≤ s0.size + 50 * l[i].f2.length + 50 * l[i].f3.length → ∃ r, Ev (fun k => spec_FormatHistory.l0 k l y ((i + 1 : Nat) : Int)) r ∧ Q r) :
    ∃ r, Ev (fun k => spec_FormatHistory.l1 k l s0 (i : Int) ((0 : Nat) : Int)) r ∧ Q r := by
  have hi1 : (i : Int) < (l.length : Int) := by omega
  have hre : rd_T53 l (i : Int) = l[i] := by simp [rd_T53, hi]
  refine ev_to (σ := ByteArray) (fun s j k => spec_FormatHistory.l1 k l s (i : Int) (j : Int)) l[i].f2.length (fun s j => s.data.toList = s0.data.toList ++ ((l[i].f2.take j).map rdT).flatten ∧ s.size ≤ s0.size + 50 * j) Q ?_ ?_ s0 0 (Nat.zero_le _) ⟨by simp, by omega⟩
  · rintro s j hj ⟨hd, hs⟩ ih
    have h1 : (j : Int) < (l[i].f2.length : Int) := by omega
    have hrd : rd_T55 l[i].f2 (j : Int) = l[i].f2[j] := by simp [rd_T55, hj]
    have ho := okr _ (List.getElem_mem hj)
    unfold okR at ho
    obtain ⟨e0, _, z0⟩ := tx_spec l[i].f2[j].f0 (by omega) (by omega)
    obtain ⟨e1, _, z1⟩ := tx_spec l[i].f2[j].f1 (by omega) (by omega)
    have q1 : s.size + 2 ≤ 9223372036854775807 := by omega
    have q2 : (s ++ (⟨#[32, 114]⟩ : ByteArray)).size + (tx l[i].f2[j].f0).size ≤ 9223372036854775807 := by simp only [ByteArray.size_append, s2]; omega
    have q3 : ((s ++ (⟨#[32, 114]⟩ : ByteArray)) ++ tx l[i].f2[j].f0).size + 1 ≤ 9223372036854775807 := by simp only [ByteArray.size_append, s2]; omega
    have q4 : (((s ++ (⟨#[32, 114]⟩ : ByteArray)) ++ tx l[i].f2[j].f0) ++ (⟨#[58]⟩ : ByteArray)).size + (tx l[i].f2[j].f1).size ≤ 9223372036854775807 := by simp only [ByteArray.size_append, s1, s2]; omega
    obtain ⟨r, hr, hR⟩ := ih ((((s ++ (⟨#[32, 114]⟩ : ByteArray)) ++ tx l[i].f2[j].f0) ++ (⟨#[58]⟩ : ByteArray)) ++ tx l[i].f2[j].f1) ⟨by
      rw [take_map rdT l[i].f2 j hj, ← List.append_assoc, ← hd]
      simp only [cat_data, rdT, List.append_assoc], by simp only [ByteArray.size_append, s1, s2]; omega⟩
    refine ⟨r, Ev.succ ?_, hR⟩
    simp only [spec_FormatHistory.l1, h1, hi1, Int.natCast_nonneg, if_true, hre, hrd, q1]
    refine Ev.bind e0 ?_
    simp only [q2, q3, if_true]
    refine Ev.bind e1 ?_
    simp only [q4, if_true, wrap_up hj (by omega)]
    exact hr
  · rintro s ⟨hd, hs⟩
    rw [List.take_length] at hd
    have h2 : ∃ r, Ev (fun k => spec_FormatHistory.l2 k l s (i : Int) ((0 : Nat) : Int)) r ∧ Q r := by
      refine ev_to (σ := ByteArray) (fun u j k => spec_FormatHistory.l2 k l u (i : Int) (j : Int)) l[i].f3.length (fun u j => u.data.toList = s.data.toList ++ ((l[i].f3.take j).map wrT).flatten ∧ u.size ≤ s.size + 50 * j) Q ?_ ?_ s 0 (Nat.zero_le _) ⟨by simp, by omega⟩
      · rintro u j hj ⟨hu, hz⟩ ih
        have h1 : (j : Int) < (l[i].f3.length : Int) := by omega
        have hrd : rd_T57 l[i].f3 (j : Int) = l[i].f3[j] := by simp [rd_T57, hj]
        have ho := okw _ (List.getElem_mem hj)
        unfold okW at ho
        obtain ⟨e0, _, z0⟩ := tx_spec l[i].f3[j].f0 (by omega) (by omega)
        obtain ⟨e1, _, z1⟩ := vx_spec l[i].f3[j].f1 (by omega) (by omega)
        have q1 : u.size + 2 ≤ 9223372036854775807 := by omega
        have q2 : (u ++ (⟨#[32, 119]⟩ : ByteArray)).size + (tx l[i].f3[j].f0).size ≤ 9223372036854775807 := by simp only [ByteArray.size_append, s2]; omega
        have q3 : ((u ++ (⟨#[32, 119]⟩ : ByteArray)) ++ tx l[i].f3[j].f0).size + 1 ≤ 9223372036854775807 := by simp only [ByteArray.size_append, s2]; omega
        have q4 : (((u ++ (⟨#[32, 119]⟩ : ByteArray)) ++ tx l[i].f3[j].f0) ++ (⟨#[58]⟩ : ByteArray)).size + (vx l[i].f3[j].f1).size ≤ 9223372036854775807 := by simp only [ByteArray.size_append, s1, s2]; omega
        obtain ⟨r, hr, hR⟩ := ih ((((u ++ (⟨#[32, 119]⟩ : ByteArray)) ++ tx l[i].f3[j].f0) ++ (⟨#[58]⟩ : ByteArray)) ++ vx l[i].f3[j].f1) ⟨by
          rw [take_map wrT l[i].f3 j hj, ← List.append_assoc, ← hu]
          simp only [cat_data, wrT, List.append_assoc], by simp only [ByteArray.size_append, s1, s2]; omega⟩
        refine ⟨r, Ev.succ ?_, hR⟩
        simp only [spec_FormatHistory.l2, h1, hi1, Int.natCast_nonneg, if_true, hre, hrd, q1]
        refine Ev.bind e0 ?_
        simp only [q2, q3, if_true]
        refine Ev.bind e1 ?_
        simp only [q4, if_true, wrap_up hj (by omega)]
        exact hr
      · rintro u ⟨hu, hz⟩
        rw [List.take_length] at hu
        obtain ⟨r, hr, hR⟩ := cont u (by rw [hu, hd, List.append_assoc]; rfl) (by omega)
        refine ⟨r, Ev.succ ?_, hR⟩
        simp only [spec_FormatHistory.l2, hi1, Int.natCast_nonneg, if_true, hre, Int.lt_irrefl, if_false, wrap_up hi (by omega)]
        exact hr
    obtain ⟨r, hr, hR⟩ := h2
    refine ⟨r, Ev.succ ?_, hR⟩
    simp only [spec_FormatHistory.l1, hi1, Int.natCast_nonneg, if_true, hre, Int.lt_irrefl, if_false]
    exact hr
set_option maxHeartbeats 8000000 in
theorem hist_loops (l : List S53) (hlen : l.length ≤ 9) (hok : ∀ e ∈ l, okE e) : ∃ r q, Ev (fun k => spec_FormatHistory.l0 k l ⟨#[]⟩ ((0 : Nat) : Int)) r ∧ Ev (fun k => impl_FormatHistory.l0 k [] l (l.length : Int) ((0 : Nat) : Int)) q ∧ r = q := by
  refine ev_two (σ := ByteArray) (τ := List ByteArray) (fun s i k => spec_FormatHistory.l0 k l s (i : Int)) (fun xs i k => impl_FormatHistory.l0 k xs l (l.length : Int) (i : Int)) l.length (fun s xs i => xs.length = i ∧ s.data.toList = JS [59, 32] xs ∧ s.size ≤ 10000 * i) (fun r q => r = q) ?_ ?_ ⟨#[]⟩ [] 0 (Nat.zero_le _) ⟨rfl, rfl, by decide⟩
  · rintro s xs i hi ⟨hx, hj, hs⟩ ih
    have h1 : (i : Int) < (l.length : Int) := by omega
    have hre : rd_T53 l (i : Int) = l[i] := by simp [rd_T53, hi]
    have e0 := wrap_up hi (by omega)
    obtain ⟨hid, hst, h60, okr, okw, h6⟩ := hok _ (List.getElem_mem hi)
    obtain ⟨en, im, zn⟩ := tx_spec l[i].f0 (by omega) (by omega)
    obtain ⟨es, is_, zs⟩ := tx_spec l[i].f1 (by omega) (by omega)
    obtain ⟨t, et, ht, zt⟩ := acc_impl l[i].f2 l[i].f3 (by omega) (by omega) okr okw
    have hxl : xs.length < 8796093022208 := by omega
    -- the spec's way from the entry's head on
    have go : ∀ s1_ : ByteArray, s1_.data.toList ++ (tx l[i].f0).data.toList ++ [64] ++ (tx l[i].f1).data.toList ++ t.data.toList = JS [59, 32] (xs ++ [((tx l[i].f0 ++ (⟨#[64]⟩ : ByteArray)) ++ tx l[i].f1) ++ t]) → s1_.size ≤ 10000 * i + 2 →
        ∃ r, Ev (fun k => spec_FormatHistory.j1 k l s1_ (i : Int)) r ∧ ∃ q, Ev (fun k => impl_FormatHistory.l0 k (xs ++ [((tx l[i].f0 ++ (⟨#[64]⟩ : ByteArray)) ++ tx l[i].f1) ++ t]) l (l.length : Int) ((i + 1 : Nat) : Int)) q ∧ r = q := by
      intro s1_ hjn hz
      have q1 : s1_.size + (tx l[i].f0).size ≤ 9223372036854775807 := by omega
      have q2 : (s1_ ++ tx l[i].f0).size + 1 ≤ 9223372036854775807 := by simp only [ByteArray.size_append]; omega
      have q3 : ((s1_ ++ tx l[i].f0) ++ (⟨#[64]⟩ : ByteArray)).size + (tx l[i].f1).size ≤ 9223372036854775807 := by simp only [ByteArray.size_append, s1]; omega
      obtain ⟨r, hr, hR⟩ := acc_spec l i hi hlen (by omega) (by omega) okr okw (((s1_ ++ tx l[i].f0) ++ (⟨#[64]⟩ : ByteArray)) ++ tx l[i].f1) (by simp only [ByteArray.size_append, s1]; omega)
        (fun r => ∃ q, Ev (fun k => impl_FormatHistory.l0 k (xs ++ [((tx l[i].f0 ++ (⟨#[64]⟩ : ByteArray)) ++ tx l[i].f1) ++ t]) l (l.length : Int) ((i + 1 : Nat) : Int)) q ∧ r = q) (fun y hy hyz => by
          obtain ⟨r, q, hr, hq, hR⟩ := ih y (xs ++ [((tx l[i].f0 ++ (⟨#[64]⟩ : ByteArray)) ++ tx l[i].f1) ++ t]) ⟨by simp [hx], by
            rw [hy, ← hjn, ← ht]; simp only [cat_data, List.append_assoc], by simp only [ByteArray.size_append, s1] at hyz; omega⟩
          exact ⟨r, hr, q, hq, hR⟩)
      refine ⟨r, Ev.succ ?_, hR⟩
      simp only [spec_FormatHistory.j1, h1, Int.natCast_nonneg, if_true, hre]
      refine Ev.bind en ?_
      simp only [q1, q2, if_true]
      refine Ev.bind es ?_
      simp only [q3, if_true]
      exact hr
    have q5 : (tx l[i].f0).size + 1 ≤ 9223372036854775807 := by omega
    have q6 : (tx l[i].f0 ++ (⟨#[64]⟩ : ByteArray)).size + (tx l[i].f1).size ≤ 9223372036854775807 := by simp only [ByteArray.size_append, s1]; omega
    have q7 : ((tx l[i].f0 ++ (⟨#[64]⟩ : ByteArray)) ++ tx l[i].f1).size + t.size ≤ 9223372036854775807 := by simp only [ByteArray.size_append, s1]; omega
    have im_ : ∀ q, Ev (fun k => impl_FormatHistory.l0 k (xs ++ [((tx l[i].f0 ++ (⟨#[64]⟩ : ByteArray)) ++ tx l[i].f1) ++ t]) l (l.length : Int) ((i + 1 : Nat) : Int)) q → Ev (fun k => impl_FormatHistory.l0 k xs l (l.length : Int) (i : Int)) q := by
      intro q hq
      apply Ev.succ
      simp only [impl_FormatHistory.l0, h1, Int.natCast_nonneg, if_true, hre, im, is_, Option.bind_some, q5, q6]
      refine Ev.bind et ?_
      simp only [q7, hxl, if_true, e0]
      exact hq
    by_cases h0 : 0 < i
    · have h3 : (i : Int) > 0 := by omega
      have z1 : s.size + 2 ≤ 9223372036854775807 := by omega
      obtain ⟨r, hr, q, hq, hR⟩ := go (s ++ (⟨#[59, 32]⟩ : ByteArray)) (by rw [JS_snoc _ xs _ (by omega), ← hj]; simp only [cat_data, List.append_assoc]) (by simp only [ByteArray.size_append, s2]; omega)
      refine ⟨r, q, Ev.succ ?_, im_ q hq, hR⟩
      simp only [spec_FormatHistory.l0, h1, h3, z1, if_true]; exact hr
    · obtain rfl : i = 0 := by omega
      have hx0 : xs = [] := List.eq_nil_of_length_eq_zero hx
      subst hx0
      have h3 : ¬ ((0 : Nat) : Int) > 0 := by omega
      have hs0 : s.data.toList = [] := hj
      obtain ⟨r, hr, q, hq, hR⟩ := go s (by rw [JS_one, hs0]; simp only [cat_data, List.append_assoc, List.nil_append]) (by omega)
      refine ⟨r, q, Ev.succ ?_, im_ q hq, hR⟩
      simp only [spec_FormatHistory.l0, h1, h3, if_true, if_false]; exact hr
  · rintro s xs ⟨hx, hj, hs⟩
    refine ⟨s, s, Ev.succ ?_, Ev.succ ?_, rfl⟩
    · simp only [spec_FormatHistory.l0, Int.lt_irrefl, if_false]; exact Ev.now _
    · simp only [impl_FormatHistory.l0, Int.lt_irrefl, if_false]
      have q0 : xs.length ≤ 140737488355328 := by omega
      have hJ : Lib.join (xs.map (·.data.toList)) (⟨#[59, 32]⟩ : ByteArray).data.toList = s.data.toList := hj.symm
      have q1 : (Lib.join (xs.map (·.data.toList)) (⟨#[59, 32]⟩ : ByteArray).data.toList).length ≤ 140737488355328 := by rw [hJ, len_data]; omega
      have hs' : strings_Join.f xs (⟨#[59, 32]⟩ : ByteArray) = some s := by
        unfold strings_Join.f
        rw [if_pos q0, if_pos q1, hJ, ← of_data s _ rfl]
      simp only [hs', Option.bind_some]; exact Ev.now _
theorem both_FormatHistory (l : List S53) (hl : l.length ≤ 1048576) (hn : ∀ e ∈ l, fitd_Entry e) : ∃ r, Ev (fun k => spec_FormatHistory.f k l) r ∧ Ev (fun k => impl_FormatHistory.f k l) r := by
  obtain ⟨b, e1, e2, _⟩ := both_IsHistory l hl hn
  by_cases h0 : (l.length : Int) = 0
  · have hb : b = true := by
      have hnil : l = [] := List.eq_nil_of_length_eq_zero (by omega)
      subst hnil
      refine Ev.uniq e2 (Ev.of ?_ (k := 3) ?_)
      · exact impl_IsHistory.mono _
      · rfl
    subst hb
    refine ⟨⟨#[110, 111, 110, 101]⟩, ?_, ?_⟩
    · unfold spec_FormatHistory.f
      refine Ev.bind e1 ?_
      simp only [if_true, h0]; exact Ev.now _
    · unfold impl_FormatHistory.f
      simp only [if_true, h0]; exact Ev.now _
  cases b
  · refine ⟨⟨#[]⟩, ?_, ?_⟩
    · unfold spec_FormatHistory.f
      refine Ev.bind e1 ?_
      simp only [Bool.false_eq_true, if_false]; exact Ev.now _
    · unfold impl_FormatHistory.f
      simp only [h0, if_false]
      refine Ev.bind e2 ?_
      simp only [Bool.false_eq_true, if_false]; exact Ev.now _
  · obtain ⟨h9, hok⟩ := hist_ok l hl hn e2
    obtain ⟨r, q, hr, hq, rfl⟩ := hist_loops l h9 hok
    refine ⟨r, ?_, ?_⟩
    · unfold spec_FormatHistory.f
      refine Ev.bind e1 ?_
      simp only [if_true, h0, if_false]; exact hr
    · unfold impl_FormatHistory.f
      simp only [h0, if_false]
      refine Ev.bind e2 ?_
      simp only [if_true]; exact hq
theorem FnExactFormatHistory : ∀ (x0 : List (S47)), (okRow PFnExactFormatHistory.g47) x0 → ∃ k, laws_FnExactFormatHistory.f k x0 = some true := by
  intro l hl
  apply Ev.rounds
  unfold laws_FnExactFormatHistory.f
  obtain ⟨r, e, _, hf⟩ := sz_EntryS l 1048576 (by omega) (by omega) (by have := hl.1; simp only [maxLen] at this; omega) (fun x hx => by have h := (hl.2 x hx).2.2; have := h.1.1; have := h.2.1; simp only [maxLen] at *; unfold lim_Entry; omega)
  refine Ev.bind e ?_
  by_cases h : r < 0
  · simp only [h, if_true]; exact Ev.now _
  have hs := hf (by omega)
  simp only [h, if_false]
  obtain ⟨r, e1, e2⟩ := both_FormatHistory (l.map cvEntry) (by simpa using hs.1) (fitds_cvEntry l hs).2
  refine Ev.bind (ev_toEntryS l hs) (Ev.bind e1 (Ev.bind (ev_toEntryS l hs) (Ev.bind e2 ?_)))
  simp only [if_true]
  refine Ev.bind (ev_toEntryS l hs) (Ev.bind (ev_eqEntryS _ (fitds_cvEntry l hs)) ?_)
  exact Ev.some rfl

end Go.Proofs.YtgpmfkmdchcagaaDoor.Pure
