/- The plain statement of FnExactWriterOf: the two searches keep step. Condition: the rows' lengths are at most maxLen. -/
import Derived.Test.YtpiaeinfneoioaaGoodFnExactWriterOf
import Derived.Test.YtpiaeinfneoioaaPlain
namespace Go.Proofs.Ytpiaeinfneoioaa.Pure
open Go.RowKit Go.Proofs.Ytpiaeinfneoioaa.PFnExactWriterOf Go.Proofs.YtpiaeinfneoioaaW.PrintWords Go.Proofs.YtpiaeinfneoioaaW.PrintLast Go.Proofs.Ytpiaeinfneoioaa.OpenK Go.Proofs.Ytpiaeinfneoioaa.Plain
set_option linter.unusedVariables false
set_option linter.unusedSimpArgs false

theorem sz_ReadMarkS (l : List S30) (a : Int) (h0 : 0 ≤ a) (h1 : a ≤ 1048576) (hl : l.length ≤ 9223372036854775807) : laws_szReadMarkS.f l a = some (if a < l.length then -1 else a - l.length) := by
  unfold laws_szReadMarkS.f
  rw [wrap_in (by omega) (by omega)]
  by_cases h : a < l.length
  · rw [if_pos (by omega), if_pos h]
  · rw [if_neg (by omega), if_neg h]

theorem szx_ReadMark (l : List S30) (a : Int) (h0 : 0 ≤ a) (h1 : a ≤ 1048576) (hl : l.length ≤ 9223372036854775807) : ∃ r, Ev (fun _ => laws_szReadMarkS.f l a) r ∧ r ≤ a ∧ (0 ≤ r → l.length ≤ 1048576) := by
  rw [sz_ReadMarkS l a h0 h1 hl]
  refine ⟨_, Ev.now _, ?_, ?_⟩ <;> split <;> omega

theorem sz_WriteS (l : List S208) (a : Int) (h0 : 0 ≤ a) (h1 : a ≤ 1048576) (hl : l.length ≤ 9223372036854775807) : laws_szWriteS.f l a = some (if a < l.length then -1 else a - l.length) := by
  unfold laws_szWriteS.f
  rw [wrap_in (by omega) (by omega)]
  by_cases h : a < l.length
  · rw [if_pos (by omega), if_pos h]
  · rw [if_neg (by omega), if_neg h]

theorem szx_Write (l : List S208) (a : Int) (h0 : 0 ≤ a) (h1 : a ≤ 1048576) (hl : l.length ≤ 9223372036854775807) : ∃ r, Ev (fun _ => laws_szWriteS.f l a) r ∧ r ≤ a ∧ (0 ≤ r → l.length ≤ 1048576) := by
  rw [sz_WriteS l a h0 h1 hl]
  refine ⟨_, Ev.now _, ?_, ?_⟩ <;> split <;> omega

def cvReadMark (x : S30) : S32 := ⟨x.f0, x.f1⟩
theorem ev_toReadMarkS (l : List S30) (hl : l.length ≤ 1048576) : Ev (fun k => laws_toReadMarkS.f k l) (l.map cvReadMark) := by
  have h : Ev (fun k => laws_toReadMarkS.l0 k l (List.replicate l.length z32) ((0 : Nat) : Int)) (l.map cvReadMark) := by
    refine ev_up (σ := List S32) (fun ys i k => laws_toReadMarkS.l0 k l ys (i : Int)) l.length (fun ys i => Filled (l.map cvReadMark) ys i) (fun _ _ => l.map cvReadMark) ?_ ?_ (List.replicate l.length z32) 0 (Nat.zero_le _) (Filled.start _ _ (by simp))
    · intro ys i hi hI ih
      apply Ev.succ
      have h1 : (i : Int) < (l.length : Int) := by omega
      have h2 : (i : Int) < (ys.length : Int) := by have := hI.1; simp at this; omega
      simp only [laws_toReadMarkS.l0, laws_toReadMark.f, Option.bind_some, h1, h2, Int.natCast_nonneg, if_true, Int.toNat_natCast, wrap_up hi (by omega)]
      exact ih _ (hI.step (by simpa using hi) (by simp [cvReadMark, rd_T30, hi]))
    · intro ys hI
      apply Ev.succ
      simp only [laws_toReadMarkS.l0, Int.lt_irrefl, if_false]
      exact Ev.some (Filled.done (by simpa using hI))
  unfold laws_toReadMarkS.f
  have h3 : ((l.length : Int) : Int).toNat ≤ 17592186044416 := by omega
  simp only [Int.natCast_nonneg, if_true, h3]
  simpa using h

def cvWrite (x : S208) : S132 := ⟨x.f0, x.f1⟩
theorem ev_toWriteS (l : List S208) (hl : l.length ≤ 1048576) : Ev (fun k => laws_toWriteS.f k l) (l.map cvWrite) := by
  have h : Ev (fun k => laws_toWriteS.l0 k l (List.replicate l.length z132) ((0 : Nat) : Int)) (l.map cvWrite) := by
    refine ev_up (σ := List S132) (fun ys i k => laws_toWriteS.l0 k l ys (i : Int)) l.length (fun ys i => Filled (l.map cvWrite) ys i) (fun _ _ => l.map cvWrite) ?_ ?_ (List.replicate l.length z132) 0 (Nat.zero_le _) (Filled.start _ _ (by simp))
    · intro ys i hi hI ih
      apply Ev.succ
      have h1 : (i : Int) < (l.length : Int) := by omega
      have h2 : (i : Int) < (ys.length : Int) := by have := hI.1; simp at this; omega
      simp only [laws_toWriteS.l0, laws_toWrite.f, Option.bind_some, h1, h2, Int.natCast_nonneg, if_true, Int.toNat_natCast, wrap_up hi (by omega)]
      exact ih _ (hI.step (by simpa using hi) (by simp [cvWrite, rd_T208, hi]))
    · intro ys hI
      apply Ev.succ
      simp only [laws_toWriteS.l0, Int.lt_irrefl, if_false]
      exact Ev.some (Filled.done (by simpa using hI))
  unfold laws_toWriteS.f
  have h3 : ((l.length : Int) : Int).toNat ≤ 17592186044416 := by omega
  simp only [Int.natCast_nonneg, if_true, h3]
  simpa using h

theorem ev_eqReadMarkS (l : List S32) (hl : l.length ≤ 9223372036854775807) : Ev (fun k => laws_eqReadMarkS.f k l l) true := by
  have h : Ev (fun k => laws_eqReadMarkS.l0 k l l ((0 : Nat) : Int)) true := by
    refine ev_up (σ := Unit) (fun _ i k => laws_eqReadMarkS.l0 k l l (i : Int)) l.length (fun _ _ => True) (fun _ _ => true) ?_ ?_ () 0 (Nat.zero_le _) trivial
    · intro ys i hi hI ih
      apply Ev.succ
      have h1 : (i : Int) < (l.length : Int) := by omega
      simp only [laws_eqReadMarkS.l0, laws_eqReadMark.f, Option.bind_some, h1, Int.natCast_nonneg, if_true, wrap_up hi hl]
      exact ih () trivial
    · intro ys hI
      apply Ev.succ
      simp only [laws_eqReadMarkS.l0, Int.lt_irrefl, if_false]
      exact Ev.now _
  unfold laws_eqReadMarkS.f
  simp only [if_true]
  exact h

theorem ev_eqWriteS (l : List S132) (hl : l.length ≤ 9223372036854775807) : Ev (fun k => laws_eqWriteS.f k l l) true := by
  have h : Ev (fun k => laws_eqWriteS.l0 k l l ((0 : Nat) : Int)) true := by
    refine ev_up (σ := Unit) (fun _ i k => laws_eqWriteS.l0 k l l (i : Int)) l.length (fun _ _ => True) (fun _ _ => true) ?_ ?_ () 0 (Nat.zero_le _) trivial
    · intro ys i hi hI ih
      apply Ev.succ
      have h1 : (i : Int) < (l.length : Int) := by omega
      simp only [laws_eqWriteS.l0, laws_eqWrite.f, Option.bind_some, h1, Int.natCast_nonneg, if_true, wrap_up hi hl]
      exact ih () trivial
    · intro ys hI
      apply Ev.succ
      simp only [laws_eqWriteS.l0, Int.lt_irrefl, if_false]
      exact Ev.now _
  unfold laws_eqWriteS.f
  simp only [if_true]
  exact h

def fit_Entry (x : S124) : Prop := x.f2.length ≤ 1048576 ∧ x.f3.length ≤ 1048576
def lim_Entry (x : S124) : Prop := x.f2.length ≤ 9223372036854775807 ∧ x.f3.length ≤ 9223372036854775807
def fitd_Entry (x : S126) : Prop := x.f2.length ≤ 1048576 ∧ x.f3.length ≤ 1048576
theorem sz_Entry (x : S124) (a : Int) (h0 : 0 ≤ a) (h1 : a ≤ 1048576) (hg : lim_Entry x) : ∃ r, Ev (fun k => laws_szEntry.f x.f0 x.f1 x.f2 x.f3 a) r ∧ r ≤ a ∧ (0 ≤ r → fit_Entry x) := by
  unfold lim_Entry at hg
  unfold laws_szEntry.f fit_Entry
  obtain ⟨r0, e0, u0, f0⟩ := szx_ReadMark x.f2 a h0 h1 hg.1
  by_cases c0 : r0 < 0
  · exact ⟨-1, Ev.bind e0 (by simp only [c0, if_true]; exact Ev.now _), by omega, fun h => absurd h (by omega)⟩
  obtain ⟨r1, e1, u1, f1⟩ := szx_Write x.f3 r0 (by omega) (by omega) hg.2
  by_cases c1 : r1 < 0
  · exact ⟨-1, Ev.bind e0 (by simp only [c0, if_false]; exact Ev.bind e1 (by simp only [c1, if_true]; exact Ev.now _)), by omega, fun h => absurd h (by omega)⟩
  exact ⟨r1, Ev.bind e0 (by simp only [c0, if_false]; exact Ev.bind e1 (by simp only [c1, if_false]; exact Ev.now _)), by omega, fun _ => ⟨f0 (by omega), f1 (by omega)⟩⟩

theorem sz_EntryS (l : List S124) (a : Int) (h0 : 0 ≤ a) (h1 : a ≤ 1048576) (hl : l.length ≤ 9223372036854775807) (hg : ∀ e ∈ l, lim_Entry e) : ∃ r, Ev (fun k => laws_szEntryS.f k l a) r ∧ r ≤ a ∧ (0 ≤ r → (l.length ≤ 1048576 ∧ ∀ e ∈ l, fit_Entry e)) := by
  unfold laws_szEntryS.f
  rw [wrap_in (by omega) (by omega)]
  by_cases h : a - (l.length : Int) < 0
  · simp only [h, if_true]; exact ⟨-1, Ev.now _, by omega, fun h => absurd h (by omega)⟩
  simp only [h, if_false]
  refine ev_to (σ := Int) (fun s i k => laws_szEntryS.l0 k l s (i : Int)) l.length (fun s i => 0 ≤ s ∧ s ≤ a ∧ ∀ j (hj : j < l.length), j < i → fit_Entry l[j]) (fun r => r ≤ a ∧ (0 ≤ r → (l.length ≤ 1048576 ∧ ∀ e ∈ l, fit_Entry e))) ?_ ?_ (a - (l.length : Int)) 0 (Nat.zero_le _) ⟨by omega, by omega, fun j hj h => absurd h (by omega)⟩
  · intro s i hi ⟨hs, hsa, hI⟩ ih
    have h2 : (i : Int) < (l.length : Int) := by omega
    have hrd : rd_T124 l (i : Int) = l[i] := by simp [rd_T124, hi]
    obtain ⟨r, e, hr, hf⟩ := sz_Entry (rd_T124 l (i : Int)) s hs (by omega) (hg _ (by rw [hrd]; exact List.getElem_mem hi))
    by_cases c : r < 0
    · refine ⟨-1, Ev.succ ?_, by omega, fun h => absurd h (by omega)⟩
      simp only [laws_szEntryS.l0, h2, Int.natCast_nonneg, if_true]
      exact Ev.bind e (by simp only [c, if_true]; exact Ev.now _)
    · obtain ⟨r', e', h'⟩ := ih r ⟨by omega, by omega, fun j hj hji => if hh : j < i then hI j hj hh else by obtain rfl : j = i := by omega
                                                                                                             rw [← hrd]; exact hf (by omega)⟩
      refine ⟨r', Ev.succ ?_, h'⟩
      simp only [laws_szEntryS.l0, h2, Int.natCast_nonneg, if_true]
      exact Ev.bind e (by simp only [c, if_false, wrap_up hi (by omega)]; exact e')
  · intro s ⟨hs, hsa, hI⟩
    refine ⟨s, Ev.succ ?_, hsa, fun _ => ⟨by omega, fun e he => ?_⟩⟩
    · simp only [laws_szEntryS.l0, Int.lt_irrefl, if_false]; exact Ev.now _
    · obtain ⟨j, hj, rfl⟩ := List.getElem_of_mem he
      exact hI j hj hj

def cvEntry (x : S124) : S126 := ⟨x.f0, x.f1, x.f2.map cvReadMark, x.f3.map cvWrite⟩
theorem fitd_cvEntry (x : S124) (h : fit_Entry x) : fitd_Entry (cvEntry x) := by
  simpa [fit_Entry, fitd_Entry, cvEntry] using h

theorem ev_toEntry (x : S124) (h : fit_Entry x) : Ev (fun k => laws_toEntry.f k x.f0 x.f1 x.f2 x.f3) (x.f0, x.f1, x.f2.map cvReadMark, x.f3.map cvWrite) := by
  unfold fit_Entry at h
  unfold laws_toEntry.f
  exact Ev.bind (ev_toReadMarkS x.f2 h.1) (Ev.bind (ev_toWriteS x.f3 h.2) (Ev.now _))

theorem ev_toEntryS (l : List S124) (h : l.length ≤ 1048576 ∧ ∀ e ∈ l, fit_Entry e) : Ev (fun k => laws_toEntryS.f k l) (l.map cvEntry) := by
  have hl := h.1
  have hh : Ev (fun k => laws_toEntryS.l0 k l (List.replicate l.length z126) ((0 : Nat) : Int)) (l.map cvEntry) := by
    refine ev_up (σ := List S126) (fun ys i k => laws_toEntryS.l0 k l ys (i : Int)) l.length (fun ys i => Filled (l.map cvEntry) ys i) (fun _ _ => l.map cvEntry) ?_ ?_ (List.replicate l.length z126) 0 (Nat.zero_le _) (Filled.start _ _ (by simp))
    · intro ys i hi hI ih
      apply Ev.succ
      have h1 : (i : Int) < (l.length : Int) := by omega
      have h2 : (i : Int) < (ys.length : Int) := by have := hI.1; simp at this; omega
      have hrd : rd_T124 l (i : Int) = l[i] := by simp [rd_T124, hi]
      simp only [laws_toEntryS.l0, h1, Int.natCast_nonneg, if_true]
      refine Ev.bind (ev_toEntry _ (by rw [hrd]; exact h.2 _ (List.getElem_mem hi))) ?_
      simp only [h2, if_true, Int.toNat_natCast, wrap_up hi (by omega)]
      exact ih _ (hI.step (by simpa using hi) (by simp [cvEntry, hrd]))
    · intro ys hI
      apply Ev.succ
      simp only [laws_toEntryS.l0, Int.lt_irrefl, if_false]
      exact Ev.some (Filled.done (by simpa using hI))
  unfold laws_toEntryS.f
  have h3 : ((l.length : Int) : Int).toNat ≤ 4398046511104 := by omega
  simp only [Int.natCast_nonneg, if_true, h3]
  simpa using hh
theorem fitds_cvEntry (l : List S124) (h : l.length ≤ 1048576 ∧ ∀ e ∈ l, fit_Entry e) : (l.map cvEntry).length ≤ 1048576 ∧ ∀ e ∈ l.map cvEntry, fitd_Entry e := by
  refine ⟨by simpa using h.1, fun e he => ?_⟩
  obtain ⟨x, hx, rfl⟩ := List.mem_map.mp he
  exact fitd_cvEntry x (h.2 x hx)

theorem ev_eqEntry (x : S126) (h : fitd_Entry x) : Ev (fun k => laws_eqEntry.f k x.f0 x.f1 x.f2 x.f3 x.f0 x.f1 x.f2 x.f3) true := by
  unfold fitd_Entry at h
  unfold laws_eqEntry.f
  simp only [if_true]
  exact Ev.bind (ev_eqReadMarkS x.f2 (by have := h.1; omega)) (by simp only [if_true]; exact Ev.bind (ev_eqWriteS x.f3 (by have := h.2; omega)) (by simp only [if_true]; exact Ev.now _))

theorem ev_eqEntryS (l : List S126) (h : l.length ≤ 1048576 ∧ ∀ e ∈ l, fitd_Entry e) : Ev (fun k => laws_eqEntryS.f k l l) true := by
  have hl := h.1
  have hh : Ev (fun k => laws_eqEntryS.l0 k l l ((0 : Nat) : Int)) true := by
    refine ev_up (σ := Unit) (fun _ i k => laws_eqEntryS.l0 k l l (i : Int)) l.length (fun _ _ => True) (fun _ _ => true) ?_ ?_ () 0 (Nat.zero_le _) trivial
    · intro ys i hi hI ih
      apply Ev.succ
      have h1 : (i : Int) < (l.length : Int) := by omega
      have hrd : rd_T126 l (i : Int) = l[i] := by simp [rd_T126, hi]
      simp only [laws_eqEntryS.l0, h1, Int.natCast_nonneg, if_true]
      refine Ev.bind (ev_eqEntry _ (by rw [hrd]; exact h.2 _ (List.getElem_mem hi))) ?_
      simp only [if_true, wrap_up hi (by omega)]
      exact ih () trivial
    · intro ys hI
      apply Ev.succ
      simp only [laws_eqEntryS.l0, Int.lt_irrefl, if_false]
      exact Ev.now _
  unfold laws_eqEntryS.f
  simp only [if_true]
  exact hh


theorem both_WriterOf (l : List S126) (a b : Int) (hl : l.length ≤ 1048576) (hn : ∀ e ∈ l, fitd_Entry e) : ∃ r, Ev (fun k => spec_WriterOf.f k l a b) r ∧ Ev (fun k => impl_WriterOf.f k l a b) r ∧ True := by
  refine ev_both (σ := Unit) (τ := Unit) (fun _ i k => spec_WriterOf.l0 k l (i : Int) a b) (fun _ i k => impl_WriterOf.l0 k l (l.length : Int) (i : Int) a b) l.length (fun _ _ _ => True) (fun _ => True) ?_ ?_ () () 0 (Nat.zero_le _) trivial
  · intro _ _ i hi _ ih
    have h1 : (i : Int) < (l.length : Int) := by omega
    have e0 := wrap_up hi (by omega)
    obtain ⟨r, hs, ht, _⟩ := ih () () trivial
    have hrd : rd_T126 l (i : Int) = l[i] := by simp [rd_T126, hi]
    have hf := (hn _ (List.getElem_mem hi)).2
    rw [← hrd] at hf
    by_cases c : (rd_T126 l i).f1 = b
    · have h : ∃ r1 q, Ev (fun k => spec_WriterOf.l1 k l (i : Int) ((0 : Nat) : Int) a b) r1 ∧ Ev (fun k => impl_Write_209.l0 k (rd_T126 l i).f3 ((rd_T126 l i).f3.length : Int) ((0 : Nat) : Int) a) q ∧ ((q < 0 ∧ r1 = r) ∨ (0 ≤ q ∧ r1 = (rd_T126 l i).f0)) := by
        refine ev_two (σ := Unit) (τ := Unit) (fun _ j k => spec_WriterOf.l1 k l (i : Int) (j : Int) a b) (fun _ j k => impl_Write_209.l0 k (rd_T126 l i).f3 ((rd_T126 l i).f3.length : Int) (j : Int) a) (rd_T126 l i).f3.length (fun _ _ _ => True) (fun r1 q => ((q < 0 ∧ r1 = r) ∨ (0 ≤ q ∧ r1 = (rd_T126 l i).f0))) ?_ ?_ () () 0 (Nat.zero_le _) trivial
        · intro _ _ j hj _ ih2
          have h2 : (j : Int) < ((rd_T126 l i).f3.length : Int) := by omega
          have e1 := wrap_up hj (by omega)
          by_cases d : (rd_T132 (rd_T126 l i).f3 j).f0 = a
          · refine ⟨(rd_T126 l i).f0, (j : Int), Ev.succ ?_, Ev.succ ?_, .inr ⟨by omega, rfl⟩⟩ <;> (simp only [spec_WriterOf.l1, impl_Write_209.l0, impl_Entry_writes_1.f, h1, h2, c, d, beq_self_eq_true, Int.natCast_nonneg, if_true, Option.bind_some]; exact Ev.now _)
          · obtain ⟨r1, q, hs1, ht1, hR⟩ := ih2 () () trivial
            have db : ((rd_T132 (rd_T126 l i).f3 j).f0 == a) = false := by simpa using d
            refine ⟨r1, q, Ev.succ ?_, Ev.succ ?_, hR⟩ <;> (simp only [spec_WriterOf.l1, impl_Write_209.l0, impl_Entry_writes_1.f, h1, h2, c, d, db, e1, Int.natCast_nonneg, if_true, if_false, Option.bind_some, Bool.false_eq_true]; assumption)
        · intro _ _ _
          refine ⟨r, -1, Ev.succ ?_, Ev.succ ?_, .inl ⟨by omega, rfl⟩⟩
          · simp only [spec_WriterOf.l1, h1, e0, Int.natCast_nonneg, Int.lt_irrefl, if_true, if_false]; exact hs
          · simp only [impl_Write_209.l0, Int.lt_irrefl, if_false]; exact Ev.now _
      obtain ⟨r1, q, g1, g2, hR⟩ := h
      refine ⟨r1, Ev.succ ?_, Ev.succ ?_, trivial⟩
      · simp only [spec_WriterOf.l0, h1, if_true]; exact g1
      · simp only [impl_WriterOf.l0, h1, c, Int.natCast_nonneg, if_true, impl_Entry_writes.f, impl_Write_164.f, impl_Write_209.f]
        refine Ev.bind (Ev.bind (Ev.bind g2 (Ev.now _)) (Ev.now _)) ?_
        rcases hR with ⟨hq, rfl⟩ | ⟨hq, rfl⟩
        · have : ¬ q ≥ 0 := by omega
          simp only [this, decide_false, Bool.false_eq_true, if_false, e0]; exact ht
        · have : q ≥ 0 := by omega
          simp only [this, decide_true, if_true]; exact Ev.now _
    · have h : Ev (fun k => spec_WriterOf.l1 k l (i : Int) ((0 : Nat) : Int) a b) r := by
        refine ev_up (σ := Unit) (fun _ j k => spec_WriterOf.l1 k l (i : Int) (j : Int) a b) (rd_T126 l i).f3.length (fun _ _ => True) (fun _ _ => r) ?_ ?_ () 0 (Nat.zero_le _) trivial
        · intro _ j hj _ ih2
          have h2 : (j : Int) < ((rd_T126 l i).f3.length : Int) := by omega
          have e1 := wrap_up hj (by omega)
          apply Ev.succ
          simp only [spec_WriterOf.l1, h1, h2, c, e1, Int.natCast_nonneg, if_true, if_false]
          exact ih2 () trivial
        · intro _ _
          apply Ev.succ
          simp only [spec_WriterOf.l1, h1, e0, Int.natCast_nonneg, Int.lt_irrefl, if_true, if_false]; exact hs
      refine ⟨r, Ev.succ ?_, Ev.succ ?_, trivial⟩
      · simp only [spec_WriterOf.l0, h1, if_true]; exact h
      · simp only [impl_WriterOf.l0, h1, c, e0, Int.natCast_nonneg, if_true, if_false]; exact ht
  · intro _ _ _
    refine ⟨0, Ev.succ ?_, Ev.succ ?_, trivial⟩ <;> (simp only [spec_WriterOf.l0, impl_WriterOf.l0, Int.lt_irrefl, if_false]; exact Ev.now _)
theorem FnExactWriterOf : ∀ (x0 : List (S124)) (x1_0 : Int) (x1_1 : Int), (okRow PFnExactWriterOf.g124) x0 → (okInt .i64) x1_0 → (okInt .i64) x1_1 → ∃ k, laws_FnExactWriterOf.f k x0 x1_0 x1_1 = some true := by
  intro l a b hl _ _
  apply Ev.rounds
  unfold laws_FnExactWriterOf.f
  obtain ⟨r, e, _, hf⟩ := sz_EntryS l 1048576 (by omega) (by omega) (by have := hl.1; simp only [maxLen] at this; omega) (fun x hx => by have h := (hl.2 x hx).2.2; have := h.1.1; have := h.2.1; simp only [maxLen] at *; unfold lim_Entry; omega)
  refine Ev.bind e ?_
  by_cases h : r < 0
  · simp only [h, if_true]; exact Ev.now _
  have hs := hf (by omega)
  simp only [h, if_false]
  obtain ⟨r, e1, e2, _⟩ := both_WriterOf (l.map cvEntry) a b (by simpa using hs.1) (fitds_cvEntry l hs).2
  refine Ev.bind (ev_toEntryS l hs) ?_
  simp only [laws_toReadMark.f, Option.bind_some]
  refine Ev.bind e1 (Ev.bind (ev_toEntryS l hs) (Ev.bind e2 ?_))
  simp only [if_true]
  refine Ev.bind (ev_toEntryS l hs) (Ev.bind (ev_eqEntryS _ (fitds_cvEntry l hs)) ?_)
  exact Ev.some rfl

end Go.Proofs.Ytpiaeinfneoioaa.Pure
