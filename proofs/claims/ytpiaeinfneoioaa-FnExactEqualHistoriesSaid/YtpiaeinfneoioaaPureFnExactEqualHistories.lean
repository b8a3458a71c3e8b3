/- The plain statement of FnExactEqualHistories: the two comparisons keep step. Condition: the rows' lengths are at most maxLen. -/
import Derived.Test.YtpiaeinfneoioaaGoodFnExactEqualHistories
import Derived.Test.YtpiaeinfneoioaaPlain
namespace Go.Proofs.Ytpiaeinfneoioaa.Pure
open Go.RowKit Go.Proofs.Ytpiaeinfneoioaa.PFnExactEqualHistories Go.Proofs.YtpiaeinfneoioaaW.PrintWords Go.Proofs.YtpiaeinfneoioaaW.PrintLast Go.Proofs.Ytpiaeinfneoioaa.OpenK Go.Proofs.Ytpiaeinfneoioaa.Plain
set_option linter.unusedVariables false
set_option linter.unusedSimpArgs false

theorem sz_ReadMarkS (l : List S30) (a : Int) (h0 : 0 ≤ a) (h1 : a ≤ 1048576) (hl : l.length ≤ 9223372036854775807) : laws_szReadMarkS.f l a = some (if a < l.length then -1 else a - l.length) := by
  unfold laws_szReadMarkS.f
  rw [wrap_in (by omega) (by omega)]
  by_cases h : a < l.length
  · rw [if_pos (by omega), if_pos h]
  · rw [if_neg (by omega), if_neg h]

theorem szx_ReadMark (l : List S30) (a : Int) (h0 : 0 ≤ a) (h1 : a ≤ 1048576) (hl : l.length ≤ 9223372036854775807) : ∃ r, Ev (fun _ => laws_szReadMarkS.f l a) r ∧ r ≤ a ∧ (0 ≤ r → l.length ≤ 1048576) := by
  rw [sz_ReadMarkS l a h0 h1 hl]
  refine ⟨_, Ev.now _, ?_, ?_⟩ <;> split <;> omega

theorem sz_WriteS (l : List S208) (a : Int) (h0 : 0 ≤ a) (h1 : a ≤ 1048576) (hl : l.length ≤ 9223372036854775807) : laws_szWriteS.f l a = some (if a < l.length then -1 else a - l.length) := by
  unfold laws_szWriteS.f
  rw [wrap_in (by omega) (by omega)]
  by_cases h : a < l.length
  · rw [if_pos (by omega), if_pos h]
  · rw [if_neg (by omega), if_neg h]

theorem szx_Write (l : List S208) (a : Int) (h0 : 0 ≤ a) (h1 : a ≤ 1048576) (hl : l.length ≤ 9223372036854775807) : ∃ r, Ev (fun _ => laws_szWriteS.f l a) r ∧ r ≤ a ∧ (0 ≤ r → l.length ≤ 1048576) := by
  rw [sz_WriteS l a h0 h1 hl]
  refine ⟨_, Ev.now _, ?_, ?_⟩ <;> split <;> omega

def cvReadMark (x : S30) : S32 := ⟨x.f0, x.f1⟩
theorem ev_toReadMarkS (l : List S30) (hl : l.length ≤ 1048576) : Ev (fun k => laws_toReadMarkS.f k l) (l.map cvReadMark) := by
  have h : Ev (fun k => laws_toReadMarkS.l0 k l (List.replicate l.length z32) ((0 : Nat) : Int)) (l.map cvReadMark) := by
    refine ev_up (σ := List S32) (fun ys i k => laws_toReadMarkS.l0 k l ys (i : Int)) l.length (fun ys i => Filled (l.map cvReadMark) ys i) (fun _ _ => l.map cvReadMark) ?_ ?_ (List.replicate l.length z32) 0 (Nat.zero_le _) (Filled.start _ _ (by simp))
    · intro ys i hi hI ih
      apply Ev.succ
      have h1 : (i : Int) < (l.length : Int) := by omega
      have h2 : (i : Int) < (ys.length : Int) := by have := hI.1; simp at this; omega
      simp only [laws_toReadMarkS.l0, laws_toReadMark.f, Option.bind_some, h1, h2, Int.natCast_nonneg, if_true, Int.toNat_natCast, wrap_up hi (by omega)]
      exact ih _ (hI.step (by simpa using hi) (by simp [cvReadMark, rd_T30, hi]))
    · intro ys hI
      apply Ev.succ
      simp only [laws_toReadMarkS.l0, Int.lt_irrefl, if_false]
      exact Ev.some (Filled.done (by simpa using hI))
  unfold laws_toReadMarkS.f
  have h3 : ((l.length : Int) : Int).toNat ≤ 17592186044416 := by omega
  simp only [Int.natCast_nonneg, if_true, h3]
  simpa using h

def cvWrite (x : S208) : S132 := ⟨x.f0, x.f1⟩
theorem ev_toWriteS (l : List S208) (hl : l.length ≤ 1048576) : Ev (fun k => laws_toWriteS.f k l) (l.map cvWrite) := by
  have h : Ev (fun k => laws_toWriteS.l0 k l (List.replicate l.length z132) ((0 : Nat) : Int)) (l.map cvWrite) := by
    refine ev_up (σ := List S132) (fun ys i k => laws_toWriteS.l0 k l ys (i : Int)) l.length (fun ys i => Filled (l.map cvWrite) ys i) (fun _ _ => l.map cvWrite) ?_ ?_ (List.replicate l.length z132) 0 (Nat.zero_le _) (Filled.start _ _ (by simp))
    · intro ys i hi hI ih
      apply Ev.succ
      have h1 : (i : Int) < (l.length : Int) := by omega
      have h2 : (i : Int) < (ys.length : Int) := by have := hI.1; simp at this; omega
      simp only [laws_toWriteS.l0, laws_toWrite.f, Option.bind_some, h1, h2, Int.natCast_nonneg, if_true, Int.toNat_natCast, wrap_up hi (by omega)]
      exact ih _ (hI.step (by simpa using hi) (by simp [cvWrite, rd_T208, hi]))
    · intro ys hI
      apply Ev.succ
      simp only [laws_toWriteS.l0, Int.lt_irrefl, if_false]
      exact Ev.some (Filled.done (by simpa using hI))
  unfold laws_toWriteS.f
  have h3 : ((l.length : Int) : Int).toNat ≤ 17592186044416 := by omega
  simp only [Int.natCast_nonneg, if_true, h3]
  simpa using h

theorem ev_eqReadMarkS (l : List S32) (hl : l.length ≤ 9223372036854775807) : Ev (fun k => laws_eqReadMarkS.f k l l) true := by
  have h : Ev (fun k => laws_eqReadMarkS.l0 k l l ((0 : Nat) : Int)) true := by
    refine ev_up (σ := Unit) (fun _ i k => laws_eqReadMarkS.l0 k l l (i : Int)) l.length (fun _ _ => True) (fun _ _ => true) ?_ ?_ () 0 (Nat.zero_le _) trivial
    · intro ys i hi hI ih
      apply Ev.succ
      have h1 : (i : Int) < (l.length : Int) := by omega
      simp only [laws_eqReadMarkS.l0, laws_eqReadMark.f, Option.bind_some, h1, Int.natCast_nonneg, if_true, wrap_up hi hl]
      exact ih () trivial
    · intro ys hI
      apply Ev.succ
      simp only [laws_eqReadMarkS.l0, Int.lt_irrefl, if_false]
      exact Ev.now _
  unfold laws_eqReadMarkS.f
  simp only [if_true]
  exact h

theorem ev_eqWriteS (l : List S132) (hl : l.length ≤ 9223372036854775807) : Ev (fun k => laws_eqWriteS.f k l l) true := by
  have h : Ev (fun k => laws_eqWriteS.l0 k l l ((0 : Nat) : Int)) true := by
    refine ev_up (σ := Unit) (fun _ i k => laws_eqWriteS.l0 k l l (i : Int)) l.length (fun _ _ => True) (fun _ _ => true) ?_ ?_ () 0 (Nat.zero_le _) trivial
    · intro ys i hi hI ih
      apply Ev.succ
      have h1 : (i : Int) < (l.length : Int) := by omega
      simp only [laws_eqWriteS.l0, laws_eqWrite.f, Option.bind_some, h1, Int.natCast_nonneg, if_true, wrap_up hi hl]
      exact ih () trivial
    · intro ys hI
      apply Ev.succ
      simp only [laws_eqWriteS.l0, Int.lt_irrefl, if_false]
      exact Ev.now _
  unfold laws_eqWriteS.f
  simp only [if_true]
  exact h

def fit_Entry (x : S124) : Prop := x.f2.length ≤ 1048576 ∧ x.f3.length ≤ 1048576
def lim_Entry (x : S124) : Prop := x.f2.length ≤ 9223372036854775807 ∧ x.f3.length ≤ 9223372036854775807
def fitd_Entry (x : S126) : Prop := x.f2.length ≤ 1048576 ∧ x.f3.length ≤ 1048576
theorem sz_Entry (x : S124) (a : Int) (h0 : 0 ≤ a) (h1 : a ≤ 1048576) (hg : lim_Entry x) : ∃ r, Ev (fun k => laws_szEntry.f x.f0 x.f1 x.f2 x.f3 a) r ∧ r ≤ a ∧ (0 ≤ r → fit_Entry x) := by
  unfold lim_Entry at hg
  unfold laws_szEntry.f fit_Entry
  obtain ⟨r0, e0, u0, f0⟩ := szx_ReadMark x.f2 a h0 h1 hg.1
  by_cases c0 : r0 < 0
  · exact ⟨-1, Ev.bind e0 (by simp only [c0, if_true]; exact Ev.now _), by omega, fun h => absurd h (by omega)⟩
  obtain ⟨r1, e1, u1, f1⟩ := szx_Write x.f3 r0 (by omega) (by omega) hg.2
  by_cases c1 : r1 < 0
  · exact ⟨-1, Ev.bind e0 (by simp only [c0, if_false]; exact Ev.bind e1 (by simp only [c1, if_true]; exact Ev.now _)), by omega, fun h => absurd h (by omega)⟩
  exact ⟨r1, Ev.bind e0 (by simp only [c0, if_false]; exact Ev.bind e1 (by simp only [c1, if_false]; exact Ev.now _)), by omega, fun _ => ⟨f0 (by omega), f1 (by omega)⟩⟩

theorem sz_EntryS (l : List S124) (a : Int) (h0 : 0 ≤ a) (h1 : a ≤ 1048576) (hl : l.length ≤ 9223372036854775807) (hg : ∀ e ∈ l, lim_Entry e) : ∃ r, Ev (fun k => laws_szEntryS.f k l a) r ∧ r ≤ a ∧ (0 ≤ r → (l.length ≤ 1048576 ∧ ∀ e ∈ l, fit_Entry e)) := by
  unfold laws_szEntryS.f
  rw [wrap_in (by omega) (by omega)]
  by_cases h : a - (l.length : Int) < 0
  · simp only [h, if_true]; exact ⟨-1, Ev.now _, by omega, fun h => absurd h (by omega)⟩
  simp only [h, if_false]
  refine ev_to (σ := Int) (fun s i k => laws_szEntryS.l0 k l s (i : Int)) l.length (fun s i => 0 ≤ s ∧ s ≤ a ∧ ∀ j (hj : j < l.length), j < i → fit_Entry l[j]) (fun r => r ≤ a ∧ (0 ≤ r → (l.length ≤ 1048576 ∧ ∀ e ∈ l, fit_Entry e))) ?_ ?_ (a - (l.length : Int)) 0 (Nat.zero_le _) ⟨by omega, by omega, fun j hj h => absurd h (by omega)⟩
  · intro s i hi ⟨hs, hsa, hI⟩ ih
    have h2 : (i : Int) < (l.length : Int) := by omega
    have hrd : rd_T124 l (i : Int) = l[i] := by simp [rd_T124, hi]
    obtain ⟨r, e, hr, hf⟩ := sz_Entry (rd_T124 l (i : Int)) s hs (by omega) (hg _ (by rw [hrd]; exact List.getElem_mem hi))
    by_cases c : r < 0
    · refine ⟨-1, Ev.succ ?_, by omega, fun h => absurd h (by omega)⟩
      simp only [laws_szEntryS.l0, h2, Int.natCast_nonneg, if_true]
      exact Ev.bind e (by simp only [c, if_true]; exact Ev.now _)
    · obtain ⟨r', e', h'⟩ := ih r ⟨by omega, by omega, fun j hj hji => if hh : j < i then hI j hj hh else by obtain rfl : j = i := by omega
                                                                                                             rw [← hrd]; exact hf (by omega)⟩
      refine ⟨r', Ev.succ ?_, h'⟩
      simp only [laws_szEntryS.l0, h2, Int.natCast_nonneg, if_true]
      exact Ev.bind e (by simp only [c, if_false, wrap_up hi (by omega)]; exact e')
  · intro s ⟨hs, hsa, hI⟩
    refine ⟨s, Ev.succ ?_, hsa, fun _ => ⟨by omega, fun e he => ?_⟩⟩
    · simp only [laws_szEntryS.l0, Int.lt_irrefl, if_false]; exact Ev.now _
    · obtain ⟨j, hj, rfl⟩ := List.getElem_of_mem he
      exact hI j hj hj

def cvEntry (x : S124) : S126 := ⟨x.f0, x.f1, x.f2.map cvReadMark, x.f3.map cvWrite⟩
theorem fitd_cvEntry (x : S124) (h : fit_Entry x) : fitd_Entry (cvEntry x) := by
  simpa [fit_Entry, fitd_Entry, cvEntry] using h

theorem ev_toEntry (x : S124) (h : fit_Entry x) : Ev (fun k => laws_toEntry.f k x.f0 x.f1 x.f2 x.f3) (x.f0, x.f1, x.f2.map cvReadMark, x.f3.map cvWrite) := by
  unfold fit_Entry at h
  unfold laws_toEntry.f
  exact Ev.bind (ev_toReadMarkS x.f2 h.1) (Ev.bind (ev_toWriteS x.f3 h.2) (Ev.now _))

theorem ev_toEntryS (l : List S124) (h : l.length ≤ 1048576 ∧ ∀ e ∈ l, fit_Entry e) : Ev (fun k => laws_toEntryS.f k l) (l.map cvEntry) := by
  have hl := h.1
  have hh : Ev (fun k => laws_toEntryS.l0 k l (List.replicate l.length z126) ((0 : Nat) : Int)) (l.map cvEntry) := by
    refine ev_up (σ := List S126) (fun ys i k => laws_toEntryS.l0 k l ys (i : Int)) l.length (fun ys i => Filled (l.map cvEntry) ys i) (fun _ _ => l.map cvEntry) ?_ ?_ (List.replicate l.length z126) 0 (Nat.zero_le _) (Filled.start _ _ (by simp))
    · intro ys i hi hI ih
      apply Ev.succ
      have h1 : (i : Int) < (l.length : Int) := by omega
      have h2 : (i : Int) < (ys.length : Int) := by have := hI.1; simp at this; omega
      have hrd : rd_T124 l (i : Int) = l[i] := by simp [rd_T124, hi]
      simp only [laws_toEntryS.l0, h1, Int.natCast_nonneg, if_true]
      refine Ev.bind (ev_toEntry _ (by rw [hrd]; exact h.2 _ (List.getElem_mem hi))) ?_
      simp only [h2, if_true, Int.toNat_natCast, wrap_up hi (by omega)]
      exact ih _ (hI.step (by simpa using hi) (by simp [cvEntry, hrd]))
    · intro ys hI
      apply Ev.succ
      simp only [laws_toEntryS.l0, Int.lt_irrefl, if_false]
      exact Ev.some (Filled.done (by simpa using hI))
  unfold laws_toEntryS.f
  have h3 : ((l.length : Int) : Int).toNat ≤ 4398046511104 := by omega
  simp only [Int.natCast_nonneg, if_true, h3]
  simpa using hh
theorem fitds_cvEntry (l : List S124) (h : l.length ≤ 1048576 ∧ ∀ e ∈ l, fit_Entry e) : (l.map cvEntry).length ≤ 1048576 ∧ ∀ e ∈ l.map cvEntry, fitd_Entry e := by
  refine ⟨by simpa using h.1, fun e he => ?_⟩
  obtain ⟨x, hx, rfl⟩ := List.mem_map.mp he
  exact fitd_cvEntry x (h.2 x hx)

theorem ev_eqEntry (x : S126) (h : fitd_Entry x) : Ev (fun k => laws_eqEntry.f k x.f0 x.f1 x.f2 x.f3 x.f0 x.f1 x.f2 x.f3) true := by
  unfold fitd_Entry at h
  unfold laws_eqEntry.f
  simp only [if_true]
  exact Ev.bind (ev_eqReadMarkS x.f2 (by have := h.1; omega)) (by simp only [if_true]; exact Ev.bind (ev_eqWriteS x.f3 (by have := h.2; omega)) (by simp only [if_true]; exact Ev.now _))

theorem ev_eqEntryS (l : List S126) (h : l.length ≤ 1048576 ∧ ∀ e ∈ l, fitd_Entry e) : Ev (fun k => laws_eqEntryS.f k l l) true := by
  have hl := h.1
  have hh : Ev (fun k => laws_eqEntryS.l0 k l l ((0 : Nat) : Int)) true := by
    refine ev_up (σ := Unit) (fun _ i k => laws_eqEntryS.l0 k l l (i : Int)) l.length (fun _ _ => True) (fun _ _ => true) ?_ ?_ () 0 (Nat.zero_le _) trivial
    · intro ys i hi hI ih
      apply Ev.succ
      have h1 : (i : Int) < (l.length : Int) := by omega
      have hrd : rd_T126 l (i : Int) = l[i] := by simp [rd_T126, hi]
      simp only [laws_eqEntryS.l0, h1, Int.natCast_nonneg, if_true]
      refine Ev.bind (ev_eqEntry _ (by rw [hrd]; exact h.2 _ (List.getElem_mem hi))) ?_
      simp only [if_true, wrap_up hi (by omega)]
      exact ih () trivial
    · intro ys hI
      apply Ev.succ
      simp only [laws_eqEntryS.l0, Int.lt_irrefl, if_false]
      exact Ev.now _
  unfold laws_eqEntryS.f
  simp only [if_true]
  exact hh


theorem both_eqWrites (a0 a1 a2 a3 a4 a5 a6 : Int) (rs : List S32) (ws : List S132) (b0 b1 b2 b3 b4 b5 b6 : Int) (rs2 : List S32) (ws2 : List S132) (hl : ws.length ≤ 1048576) (he : ws.length = ws2.length) :
    ∃ x, Ev (fun k => impl_Write.l0 k ws ws2 (ws.length : Int) ((0 : Nat) : Int)) x ∧ Ev (fun k => spec_EqualTransactions.l1 k ((0 : Nat) : Int) a0 a1 a2 a3 a4 a5 a6 rs ws b0 b1 b2 b3 b4 b5 b6 rs2 ws2) x ∧ True := by
  refine ev_both (σ := Unit) (τ := Unit) (fun _ i k => impl_Write.l0 k ws ws2 (ws.length : Int) (i : Int)) (fun _ i k => spec_EqualTransactions.l1 k (i : Int) a0 a1 a2 a3 a4 a5 a6 rs ws b0 b1 b2 b3 b4 b5 b6 rs2 ws2) ws.length (fun _ _ _ => True) (fun _ => True) ?_ ?_ () () 0 (Nat.zero_le _) trivial
  · intro _ _ i hi _ ih
    have h1 : (i : Int) < (ws.length : Int) := by omega
    have h2 : (i : Int) < (ws2.length : Int) := by omega
    have e0 := wrap_up hi (by omega)
    obtain ⟨x, hx, hy, _⟩ := ih () () trivial
    by_cases c : (!((rd_T132 ws (i : Int)).f0 == (rd_T132 ws2 (i : Int)).f0) || (!((rd_T132 ws (i : Int)).f1 == (rd_T132 ws2 (i : Int)).f1))) = true
    · refine ⟨false, Ev.succ ?_, Ev.succ ?_, trivial⟩ <;> (simp only [impl_Write.l0, spec_EqualTransactions.l1, h1, h2, c, Int.natCast_nonneg, if_true]; exact Ev.now _)
    · refine ⟨x, Ev.succ ?_, Ev.succ ?_, trivial⟩ <;> (simp only [impl_Write.l0, spec_EqualTransactions.l1, h1, h2, c, e0, Int.natCast_nonneg, if_true, if_false]; assumption)
  · intro _ _ _
    refine ⟨true, Ev.succ ?_, Ev.succ ?_, trivial⟩ <;> (simp only [impl_Write.l0, spec_EqualTransactions.l1, Int.lt_irrefl, if_false]; exact Ev.now _)
theorem both_eqReads (a0 a1 a2 a3 a4 a5 a6 : Int) (rs : List S32) (ws : List S132) (b0 b1 b2 b3 b4 b5 b6 : Int) (rs2 : List S32) (ws2 : List S132) (hl : rs.length ≤ 1048576) (he : rs.length = rs2.length) (r : Bool) (hr : Ev (fun k => spec_EqualTransactions.l1 k 0 a0 a1 a2 a3 a4 a5 a6 rs ws b0 b1 b2 b3 b4 b5 b6 rs2 ws2) r) :
    ∃ x y, Ev (fun k => impl_ReadMark.l0 k rs rs2 (rs.length : Int) ((0 : Nat) : Int)) x ∧ Ev (fun k => spec_EqualTransactions.l0 k ((0 : Nat) : Int) a0 a1 a2 a3 a4 a5 a6 rs ws b0 b1 b2 b3 b4 b5 b6 rs2 ws2) y ∧ y = (x && r) := by
  refine ev_two (σ := Unit) (τ := Unit) (fun _ i k => impl_ReadMark.l0 k rs rs2 (rs.length : Int) (i : Int)) (fun _ i k => spec_EqualTransactions.l0 k (i : Int) a0 a1 a2 a3 a4 a5 a6 rs ws b0 b1 b2 b3 b4 b5 b6 rs2 ws2) rs.length (fun _ _ _ => True) (fun x y => y = (x && r)) ?_ ?_ () () 0 (Nat.zero_le _) trivial
  · intro _ _ i hi _ ih
    have h1 : (i : Int) < (rs.length : Int) := by omega
    have h2 : (i : Int) < (rs2.length : Int) := by omega
    have e0 := wrap_up hi (by omega)
    obtain ⟨x, y, hx, hy, hxy⟩ := ih () () trivial
    by_cases c : (!((rd_T32 rs (i : Int)).f0 == (rd_T32 rs2 (i : Int)).f0) || (!((rd_T32 rs (i : Int)).f1 == (rd_T32 rs2 (i : Int)).f1))) = true
    · refine ⟨false, false, Ev.succ ?_, Ev.succ ?_, rfl⟩ <;> (simp only [impl_ReadMark.l0, spec_EqualTransactions.l0, h1, h2, c, Int.natCast_nonneg, if_true]; exact Ev.now _)
    · refine ⟨x, y, Ev.succ ?_, Ev.succ ?_, hxy⟩ <;> (simp only [impl_ReadMark.l0, spec_EqualTransactions.l0, h1, h2, c, e0, Int.natCast_nonneg, if_true, if_false]; assumption)
  · intro _ _ _
    refine ⟨true, r, Ev.succ ?_, Ev.succ ?_, (Bool.true_and _).symm⟩
    · simp only [impl_ReadMark.l0, Int.lt_irrefl, if_false]; exact Ev.now _
    · simp only [spec_EqualTransactions.l0, Int.lt_irrefl, if_false]; exact hr
theorem both_same (x y : S126) (hx : fitd_Entry x) : ∃ b, Ev (fun k => spec_EqualTransactions.f k x.f0 1 2 0 0 1000 x.f1 x.f2 x.f3 y.f0 1 2 0 0 1000 y.f1 y.f2 y.f3) b ∧ Ev (fun k => impl_sameEntries.f k x.f0 x.f1 x.f2 x.f3 y.f0 y.f1 y.f2 y.f3) b := by
  have jT : Ev (fun k => spec_EqualTransactions.j0 k true x.f0 1 2 0 0 1000 x.f1 x.f2 x.f3 y.f0 1 2 0 0 1000 y.f1 y.f2 y.f3) false := Ev.succ (by simp only [spec_EqualTransactions.j0, if_true]; exact Ev.now _)
  unfold spec_EqualTransactions.f impl_sameEntries.f impl_Write.f impl_ReadMark.f
  by_cases c0 : x.f0 = y.f0
  rotate_left 1
  · refine ⟨false, ?_, ?_⟩ <;> simp only [c0, if_false]
    · exact jT
    · exact Ev.now _
  by_cases c1 : x.f1 = y.f1
  rotate_left 1
  · refine ⟨false, ?_, ?_⟩ <;> simp only [c0, c1, if_true, if_false]
    · rw [← c0]; rw [c0] at jT ⊢; exact jT
    · exact Ev.now _
  by_cases c2 : (x.f2.length : Int) = (y.f2.length : Int)
  rotate_left 1
  · refine ⟨false, ?_, ?_⟩
    · simp only [c0, c1, c2, if_true, if_false]
      rw [c0, c1] at jT; exact jT
    · simp only [c0, c1, c2, if_true, if_false, Option.bind_some, Bool.false_eq_true]; exact Ev.now _
  by_cases c3 : (x.f3.length : Int) = (y.f3.length : Int)
  · obtain ⟨w, hw1, hw2, _⟩ := both_eqWrites x.f0 1 2 0 0 1000 x.f1 x.f2 x.f3 y.f0 1 2 0 0 1000 y.f1 y.f2 y.f3 hx.2 (by omega)
    obtain ⟨r, z, hr1, hr2, rfl⟩ := both_eqReads x.f0 1 2 0 0 1000 x.f1 x.f2 x.f3 y.f0 1 2 0 0 1000 y.f1 y.f2 y.f3 hx.1 (by omega) w hw2
    refine ⟨r && w, ?_, ?_⟩
    · have jF : Ev (fun k => spec_EqualTransactions.j0 k false x.f0 1 2 0 0 1000 x.f1 x.f2 x.f3 y.f0 1 2 0 0 1000 y.f1 y.f2 y.f3) (r && w) := Ev.succ (by simp only [spec_EqualTransactions.j0, Bool.false_eq_true, if_false]; exact hr2)
      have hne : ((x.f3.length : Int) != (y.f3.length : Int)) = false := by simp [c3]
      simp only [c2, hne, if_true]
      simp only [if_pos c0, if_pos c1]; exact jF
    · simp only [if_pos c0, if_pos c1]
      simp only [c2, if_true]
      rw [c2] at hr1
      refine Ev.bind hr1 ?_
      cases r
      · simp only [Bool.false_eq_true, if_false, Bool.false_and]; exact Ev.now _
      · simp only [if_true, Bool.true_and, c3]
        rw [c3] at hw1
        exact Ev.bind hw1 (Ev.now _)
  · refine ⟨false, ?_, ?_⟩
    · have hne : ((x.f3.length : Int) != (y.f3.length : Int)) = true := by simp [c3]
      simp only [c2, hne, if_true]
      simp only [if_pos c0, if_pos c1]; exact jT
    · obtain ⟨r, hr⟩ : ∃ r, Ev (fun k => impl_ReadMark.l0 k x.f2 y.f2 (x.f2.length : Int) ((0 : Nat) : Int)) r := by
        refine (ev_to (σ := Unit) (fun _ i k => impl_ReadMark.l0 k x.f2 y.f2 (x.f2.length : Int) (i : Int)) x.f2.length (fun _ _ => True) (fun _ => True) ?_ ?_ () 0 (Nat.zero_le _) trivial).imp (fun r h => h.1)
        · intro _ i hi _ ih
          have h1 : (i : Int) < (x.f2.length : Int) := by omega
          have h2 : (i : Int) < (y.f2.length : Int) := by omega
          have e0 := wrap_up hi (by have := hx.1; omega)
          obtain ⟨r, hr, _⟩ := ih () trivial
          by_cases c : (!((rd_T32 x.f2 (i : Int)).f0 == (rd_T32 y.f2 (i : Int)).f0) || (!((rd_T32 x.f2 (i : Int)).f1 == (rd_T32 y.f2 (i : Int)).f1))) = true
          · refine ⟨false, Ev.succ ?_, trivial⟩; simp only [impl_ReadMark.l0, h1, h2, c, Int.natCast_nonneg, if_true]; exact Ev.now _
          · refine ⟨r, Ev.succ ?_, trivial⟩; simp only [impl_ReadMark.l0, h1, h2, c, e0, Int.natCast_nonneg, if_true, if_false]; exact hr
        · intro _ _
          refine ⟨true, Ev.succ ?_, trivial⟩; simp only [impl_ReadMark.l0, Int.lt_irrefl, if_false]; exact Ev.now _
      simp only [if_pos c0, if_pos c1]
      simp only [c2, if_true]
      rw [c2] at hr
      refine Ev.bind hr ?_
      cases r
      · simp only [Bool.false_eq_true, if_false]; exact Ev.now _
      · simp only [if_true, c3, if_false, Option.bind_some]; exact Ev.now _
theorem both_EqualHistories (l m : List S126) (hl : l.length ≤ 1048576) (hn : ∀ e ∈ l, fitd_Entry e) : ∃ r, Ev (fun k => spec_EqualHistories.f k l m) r ∧ Ev (fun k => impl_EqualHistories.f k l m) r := by
  unfold spec_EqualHistories.f impl_EqualHistories.f impl_Entry.f
  by_cases c : (l.length : Int) = (m.length : Int)
  rotate_left 1
  · refine ⟨false, ?_, ?_⟩ <;> simp only [c, if_false, Option.bind_some] <;> exact Ev.now _
  have h : ∃ r, Ev (fun k => spec_EqualHistories.l0 k l m ((0 : Nat) : Int)) r ∧ Ev (fun k => impl_Entry.l0 k m l (l.length : Int) ((0 : Nat) : Int)) r ∧ True := by
    refine ev_both (σ := Unit) (τ := Unit) (fun _ i k => spec_EqualHistories.l0 k l m (i : Int)) (fun _ i k => impl_Entry.l0 k m l (l.length : Int) (i : Int)) l.length (fun _ _ _ => True) (fun _ => True) ?_ ?_ () () 0 (Nat.zero_le _) trivial
    · intro _ _ i hi _ ih
      have h1 : (i : Int) < (l.length : Int) := by omega
      have h2 : (i : Int) < (m.length : Int) := by omega
      have e0 := wrap_up hi (by omega)
      have hrd : rd_T126 l (i : Int) = l[i] := by simp [rd_T126, hi]
      obtain ⟨r, hs, ht, _⟩ := ih () () trivial
      obtain ⟨b, e1, e2⟩ := both_same (rd_T126 l (i : Int)) (rd_T126 m (i : Int)) (by rw [hrd]; exact hn _ (List.getElem_mem hi))
      cases b
      · refine ⟨false, Ev.succ ?_, Ev.succ ?_, trivial⟩
        · simp only [spec_EqualHistories.l0, spec_l18Tx.f, h1, h2, Int.natCast_nonneg, if_true, Option.bind_some]
          refine Ev.bind e1 ?_
          simp only [Bool.false_eq_true, if_false]; exact Ev.now _
        · simp only [impl_Entry.l0, h1, h2, Int.natCast_nonneg, if_true]
          refine Ev.bind e2 ?_
          simp only [Bool.false_eq_true, if_false]; exact Ev.now _
      · refine ⟨r, Ev.succ ?_, Ev.succ ?_, trivial⟩
        · simp only [spec_EqualHistories.l0, spec_l18Tx.f, h1, h2, Int.natCast_nonneg, if_true, Option.bind_some]
          refine Ev.bind e1 ?_
          simp only [if_true, e0]; exact hs
        · simp only [impl_Entry.l0, h1, h2, Int.natCast_nonneg, if_true]
          refine Ev.bind e2 ?_
          simp only [if_true, e0]; exact ht
    · intro _ _ _
      refine ⟨true, Ev.succ ?_, Ev.succ ?_, trivial⟩ <;> (simp only [spec_EqualHistories.l0, impl_Entry.l0, Int.lt_irrefl, if_false]; exact Ev.now _)
  obtain ⟨r, h1, h2, _⟩ := h
  refine ⟨r, ?_, ?_⟩
  · simp only [if_pos c]; exact h1
  · simp only [if_pos c]; exact Ev.bind h2 (Ev.now _)
theorem FnExactEqualHistories : ∀ (x0 : List (S124)) (x1 : List (S124)), (okRow PFnExactEqualHistories.g124) x0 → (okRow PFnExactEqualHistories.g124) x1 → ∃ k, laws_FnExactEqualHistories.f k x0 x1 = some true := by
  intro l m hl hm
  apply Ev.rounds
  unfold laws_FnExactEqualHistories.f
  have hlim : ∀ l : List (S124), (okRow PFnExactEqualHistories.g124) l → l.length ≤ 9223372036854775807 ∧ ∀ x ∈ l, lim_Entry x := by
    intro l hl
    refine ⟨by have := hl.1; simp only [maxLen] at this; omega, fun x hx => ?_⟩
    have h := (hl.2 x hx).2.2; have := h.1.1; have := h.2.1; simp only [maxLen] at *; unfold lim_Entry; omega
  obtain ⟨r, e, hr1, hf⟩ := sz_EntryS l 1048576 (by omega) (by omega) (hlim l hl).1 (hlim l hl).2
  refine Ev.bind e ?_
  by_cases h : r < 0
  · simp only [h, if_true]; exact Ev.now _
  have hs := hf (by omega)
  simp only [h, if_false]
  obtain ⟨r2, e2, hr2, hf2⟩ := sz_EntryS m r (by omega) (by omega) (hlim m hm).1 (hlim m hm).2
  refine Ev.bind e2 ?_
  by_cases h2 : r2 < 0
  · simp only [h2, if_true]; exact Ev.now _
  have hs2 := hf2 (by omega)
  simp only [h2, if_false]
  obtain ⟨r, e1, e2⟩ := both_EqualHistories (l.map cvEntry) (m.map cvEntry) (by simpa using hs.1) (fitds_cvEntry l hs).2
  refine Ev.bind (ev_toEntryS l hs) (Ev.bind (ev_toEntryS m hs2) (Ev.bind e1 (Ev.bind (ev_toEntryS l hs) (Ev.bind (ev_toEntryS m hs2) (Ev.bind e2 ?_)))))
  simp only [bne_self_eq_false, Bool.false_eq_true, if_false]
  refine Ev.bind (ev_toEntryS l hs) (Ev.bind (ev_eqEntryS _ (fitds_cvEntry l hs)) ?_)
  simp only [if_true]
  refine Ev.bind (ev_toEntryS m hs2) (Ev.bind (ev_eqEntryS _ (fitds_cvEntry m hs2)) ?_)
  exact Ev.some rfl

end Go.Proofs.Ytpiaeinfneoioaa.Pure
