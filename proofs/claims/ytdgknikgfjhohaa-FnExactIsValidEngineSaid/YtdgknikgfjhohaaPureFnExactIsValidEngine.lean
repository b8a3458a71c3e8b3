/- The plain statement of FnExactIsValidEngine: both functions say the same, and the engine is as it was. Condition: the rows' lengths are at most maxLen. -/
import Derived.Test.YtdgknikgfjhohaaGoodFnExactIsValidEngine
import Derived.Test.YtdgknikgfjhohaaPlainT
namespace Go.Proofs.Ytdgknikgfjhohaa.Pure
open Go.RowKit Go.Proofs.Ytdgknikgfjhohaa.PFnExactIsValidEngine Go.Proofs.YtdgknikgfjhohaaW.PrintWords Go.Proofs.YtdgknikgfjhohaaW.PrintLast Go.Proofs.Ytdgknikgfjhohaa.OpenK Go.Proofs.Ytdgknikgfjhohaa.Plain
set_option linter.unusedVariables false
set_option linter.unusedSimpArgs false

theorem sz_LockS (l : List S123) (a : Int) (h0 : 0 ≤ a) (h1 : a ≤ 1048576) (hl : l.length ≤ 9223372036854775807) : laws_szLockS.f l a = some (if a < l.length then -1 else a - l.length) := by
  unfold laws_szLockS.f
  rw [wrap_in (by omega) (by omega)]
  by_cases h : a < l.length
  · rw [if_pos (by omega), if_pos h]
  · rw [if_neg (by omega), if_neg h]

theorem szx_Lock (l : List S123) (a : Int) (h0 : 0 ≤ a) (h1 : a ≤ 1048576) (hl : l.length ≤ 9223372036854775807) : ∃ r, Ev (fun _ => laws_szLockS.f l a) r ∧ r ≤ a ∧ (0 ≤ r → l.length ≤ 1048576) := by
  rw [sz_LockS l a h0 h1 hl]
  refine ⟨_, Ev.now _, ?_, ?_⟩ <;> split <;> omega

theorem sz_ReadMarkS (l : List S173) (a : Int) (h0 : 0 ≤ a) (h1 : a ≤ 1048576) (hl : l.length ≤ 9223372036854775807) : laws_szReadMarkS.f l a = some (if a < l.length then -1 else a - l.length) := by
  unfold laws_szReadMarkS.f
  rw [wrap_in (by omega) (by omega)]
  by_cases h : a < l.length
  · rw [if_pos (by omega), if_pos h]
  · rw [if_neg (by omega), if_neg h]

theorem szx_ReadMark (l : List S173) (a : Int) (h0 : 0 ≤ a) (h1 : a ≤ 1048576) (hl : l.length ≤ 9223372036854775807) : ∃ r, Ev (fun _ => laws_szReadMarkS.f l a) r ∧ r ≤ a ∧ (0 ≤ r → l.length ≤ 1048576) := by
  rw [sz_ReadMarkS l a h0 h1 hl]
  refine ⟨_, Ev.now _, ?_, ?_⟩ <;> split <;> omega

theorem sz_VersionS (l : List S171) (a : Int) (h0 : 0 ≤ a) (h1 : a ≤ 1048576) (hl : l.length ≤ 9223372036854775807) : laws_szVersionS.f l a = some (if a < l.length then -1 else a - l.length) := by
  unfold laws_szVersionS.f
  rw [wrap_in (by omega) (by omega)]
  by_cases h : a < l.length
  · rw [if_pos (by omega), if_pos h]
  · rw [if_neg (by omega), if_neg h]

theorem szx_Version (l : List S171) (a : Int) (h0 : 0 ≤ a) (h1 : a ≤ 1048576) (hl : l.length ≤ 9223372036854775807) : ∃ r, Ev (fun _ => laws_szVersionS.f l a) r ∧ r ≤ a ∧ (0 ≤ r → l.length ≤ 1048576) := by
  rw [sz_VersionS l a h0 h1 hl]
  refine ⟨_, Ev.now _, ?_, ?_⟩ <;> split <;> omega

theorem sz_WaitS (l : List S125) (a : Int) (h0 : 0 ≤ a) (h1 : a ≤ 1048576) (hl : l.length ≤ 9223372036854775807) : laws_szWaitS.f l a = some (if a < l.length then -1 else a - l.length) := by
  unfold laws_szWaitS.f
  rw [wrap_in (by omega) (by omega)]
  by_cases h : a < l.length
  · rw [if_pos (by omega), if_pos h]
  · rw [if_neg (by omega), if_neg h]

theorem szx_Wait (l : List S125) (a : Int) (h0 : 0 ≤ a) (h1 : a ≤ 1048576) (hl : l.length ≤ 9223372036854775807) : ∃ r, Ev (fun _ => laws_szWaitS.f l a) r ∧ r ≤ a ∧ (0 ≤ r → l.length ≤ 1048576) := by
  rw [sz_WaitS l a h0 h1 hl]
  refine ⟨_, Ev.now _, ?_, ?_⟩ <;> split <;> omega

theorem sz_WriteS (l : List S175) (a : Int) (h0 : 0 ≤ a) (h1 : a ≤ 1048576) (hl : l.length ≤ 9223372036854775807) : laws_szWriteS.f l a = some (if a < l.length then -1 else a - l.length) := by
  unfold laws_szWriteS.f
  rw [wrap_in (by omega) (by omega)]
  by_cases h : a < l.length
  · rw [if_pos (by omega), if_pos h]
  · rw [if_neg (by omega), if_neg h]

theorem szx_Write (l : List S175) (a : Int) (h0 : 0 ≤ a) (h1 : a ≤ 1048576) (hl : l.length ≤ 9223372036854775807) : ∃ r, Ev (fun _ => laws_szWriteS.f l a) r ∧ r ≤ a ∧ (0 ≤ r → l.length ≤ 1048576) := by
  rw [sz_WriteS l a h0 h1 hl]
  refine ⟨_, Ev.now _, ?_, ?_⟩ <;> split <;> omega

def cvLock (x : S123) : S76 := ⟨x.f0, x.f1⟩
theorem ev_toLockS (l : List S123) (hl : l.length ≤ 1048576) : Ev (fun k => laws_toLockS.f k l) (l.map cvLock) := by
  have h : Ev (fun k => laws_toLockS.l0 k l (List.replicate l.length z76) ((0 : Nat) : Int)) (l.map cvLock) := by
    refine ev_up (σ := List S76) (fun ys i k => laws_toLockS.l0 k l ys (i : Int)) l.length (fun ys i => Filled (l.map cvLock) ys i) (fun _ _ => l.map cvLock) ?_ ?_ (List.replicate l.length z76) 0 (Nat.zero_le _) (Filled.start _ _ (by simp))
    · intro ys i hi hI ih
      apply Ev.succ
      have h1 : (i : Int) < (l.length : Int) := by omega
      have h2 : (i : Int) < (ys.length : Int) := by have := hI.1; simp at this; omega
      simp only [laws_toLockS.l0, laws_toLock.f, Option.bind_some, h1, h2, Int.natCast_nonneg, if_true, Int.toNat_natCast, wrap_up hi (by omega)]
      exact ih _ (hI.step (by simpa using hi) (by simp [cvLock, rd_T123, hi]))
    · intro ys hI
      apply Ev.succ
      simp only [laws_toLockS.l0, Int.lt_irrefl, if_false]
      exact Ev.some (Filled.done (by simpa using hI))
  unfold laws_toLockS.f
  have h3 : ((l.length : Int) : Int).toNat ≤ 17592186044416 := by omega
  simp only [Int.natCast_nonneg, if_true, h3]
  simpa using h

def cvReadMark (x : S173) : S116 := ⟨x.f0, x.f1⟩
theorem ev_toReadMarkS (l : List S173) (hl : l.length ≤ 1048576) : Ev (fun k => laws_toReadMarkS.f k l) (l.map cvReadMark) := by
  have h : Ev (fun k => laws_toReadMarkS.l0 k l (List.replicate l.length z116) ((0 : Nat) : Int)) (l.map cvReadMark) := by
    refine ev_up (σ := List S116) (fun ys i k => laws_toReadMarkS.l0 k l ys (i : Int)) l.length (fun ys i => Filled (l.map cvReadMark) ys i) (fun _ _ => l.map cvReadMark) ?_ ?_ (List.replicate l.length z116) 0 (Nat.zero_le _) (Filled.start _ _ (by simp))
    · intro ys i hi hI ih
      apply Ev.succ
      have h1 : (i : Int) < (l.length : Int) := by omega
      have h2 : (i : Int) < (ys.length : Int) := by have := hI.1; simp at this; omega
      simp only [laws_toReadMarkS.l0, laws_toReadMark.f, Option.bind_some, h1, h2, Int.natCast_nonneg, if_true, Int.toNat_natCast, wrap_up hi (by omega)]
      exact ih _ (hI.step (by simpa using hi) (by simp [cvReadMark, rd_T173, hi]))
    · intro ys hI
      apply Ev.succ
      simp only [laws_toReadMarkS.l0, Int.lt_irrefl, if_false]
      exact Ev.some (Filled.done (by simpa using hI))
  unfold laws_toReadMarkS.f
  have h3 : ((l.length : Int) : Int).toNat ≤ 17592186044416 := by omega
  simp only [Int.natCast_nonneg, if_true, h3]
  simpa using h

def cvVersion (x : S171) : S52 := ⟨x.f0, x.f1, x.f2, x.f3, x.f4⟩
theorem ev_toVersionS (l : List S171) (hl : l.length ≤ 1048576) : Ev (fun k => laws_toVersionS.f k l) (l.map cvVersion) := by
  have h : Ev (fun k => laws_toVersionS.l0 k l (List.replicate l.length z52) ((0 : Nat) : Int)) (l.map cvVersion) := by
    refine ev_up (σ := List S52) (fun ys i k => laws_toVersionS.l0 k l ys (i : Int)) l.length (fun ys i => Filled (l.map cvVersion) ys i) (fun _ _ => l.map cvVersion) ?_ ?_ (List.replicate l.length z52) 0 (Nat.zero_le _) (Filled.start _ _ (by simp))
    · intro ys i hi hI ih
      apply Ev.succ
      have h1 : (i : Int) < (l.length : Int) := by omega
      have h2 : (i : Int) < (ys.length : Int) := by have := hI.1; simp at this; omega
      simp only [laws_toVersionS.l0, laws_toVersion.f, Option.bind_some, h1, h2, Int.natCast_nonneg, if_true, Int.toNat_natCast, wrap_up hi (by omega)]
      exact ih _ (hI.step (by simpa using hi) (by simp [cvVersion, rd_T171, hi]))
    · intro ys hI
      apply Ev.succ
      simp only [laws_toVersionS.l0, Int.lt_irrefl, if_false]
      exact Ev.some (Filled.done (by simpa using hI))
  unfold laws_toVersionS.f
  have h3 : ((l.length : Int) : Int).toNat ≤ 7036874417766 := by omega
  simp only [Int.natCast_nonneg, if_true, h3]
  simpa using h

def cvWait (x : S125) : S78 := ⟨x.f0, x.f1⟩
theorem ev_toWaitS (l : List S125) (hl : l.length ≤ 1048576) : Ev (fun k => laws_toWaitS.f k l) (l.map cvWait) := by
  have h : Ev (fun k => laws_toWaitS.l0 k l (List.replicate l.length z78) ((0 : Nat) : Int)) (l.map cvWait) := by
    refine ev_up (σ := List S78) (fun ys i k => laws_toWaitS.l0 k l ys (i : Int)) l.length (fun ys i => Filled (l.map cvWait) ys i) (fun _ _ => l.map cvWait) ?_ ?_ (List.replicate l.length z78) 0 (Nat.zero_le _) (Filled.start _ _ (by simp))
    · intro ys i hi hI ih
      apply Ev.succ
      have h1 : (i : Int) < (l.length : Int) := by omega
      have h2 : (i : Int) < (ys.length : Int) := by have := hI.1; simp at this; omega
      simp only [laws_toWaitS.l0, laws_toWait.f, Option.bind_some, h1, h2, Int.natCast_nonneg, if_true, Int.toNat_natCast, wrap_up hi (by omega)]
      exact ih _ (hI.step (by simpa using hi) (by simp [cvWait, rd_T125, hi]))
    · intro ys hI
      apply Ev.succ
      simp only [laws_toWaitS.l0, Int.lt_irrefl, if_false]
      exact Ev.some (Filled.done (by simpa using hI))
  unfold laws_toWaitS.f
  have h3 : ((l.length : Int) : Int).toNat ≤ 17592186044416 := by omega
  simp only [Int.natCast_nonneg, if_true, h3]
  simpa using h

def cvWrite (x : S175) : S103 := ⟨x.f0, x.f1⟩
theorem ev_toWriteS (l : List S175) (hl : l.length ≤ 1048576) : Ev (fun k => laws_toWriteS.f k l) (l.map cvWrite) := by
  have h : Ev (fun k => laws_toWriteS.l0 k l (List.replicate l.length z103) ((0 : Nat) : Int)) (l.map cvWrite) := by
    refine ev_up (σ := List S103) (fun ys i k => laws_toWriteS.l0 k l ys (i : Int)) l.length (fun ys i => Filled (l.map cvWrite) ys i) (fun _ _ => l.map cvWrite) ?_ ?_ (List.replicate l.length z103) 0 (Nat.zero_le _) (Filled.start _ _ (by simp))
    · intro ys i hi hI ih
      apply Ev.succ
      have h1 : (i : Int) < (l.length : Int) := by omega
      have h2 : (i : Int) < (ys.length : Int) := by have := hI.1; simp at this; omega
      simp only [laws_toWriteS.l0, laws_toWrite.f, Option.bind_some, h1, h2, Int.natCast_nonneg, if_true, Int.toNat_natCast, wrap_up hi (by omega)]
      exact ih _ (hI.step (by simpa using hi) (by simp [cvWrite, rd_T175, hi]))
    · intro ys hI
      apply Ev.succ
      simp only [laws_toWriteS.l0, Int.lt_irrefl, if_false]
      exact Ev.some (Filled.done (by simpa using hI))
  unfold laws_toWriteS.f
  have h3 : ((l.length : Int) : Int).toNat ≤ 17592186044416 := by omega
  simp only [Int.natCast_nonneg, if_true, h3]
  simpa using h

theorem ev_eqLockS (l : List S76) (hl : l.length ≤ 9223372036854775807) : Ev (fun k => laws_eqLockS.f k l l) true := by
  have h : Ev (fun k => laws_eqLockS.l0 k l l ((0 : Nat) : Int)) true := by
    refine ev_up (σ := Unit) (fun _ i k => laws_eqLockS.l0 k l l (i : Int)) l.length (fun _ _ => True) (fun _ _ => true) ?_ ?_ () 0 (Nat.zero_le _) trivial
    · intro ys i hi hI ih
      apply Ev.succ
      have h1 : (i : Int) < (l.length : Int) := by omega
      simp only [laws_eqLockS.l0, laws_eqLock.f, Option.bind_some, h1, Int.natCast_nonneg, if_true, wrap_up hi hl]
      exact ih () trivial
    · intro ys hI
      apply Ev.succ
      simp only [laws_eqLockS.l0, Int.lt_irrefl, if_false]
      exact Ev.now _
  unfold laws_eqLockS.f
  simp only [if_true]
  exact h

theorem ev_eqReadMarkS (l : List S116) (hl : l.length ≤ 9223372036854775807) : Ev (fun k => laws_eqReadMarkS.f k l l) true := by
  have h : Ev (fun k => laws_eqReadMarkS.l0 k l l ((0 : Nat) : Int)) true := by
    refine ev_up (σ := Unit) (fun _ i k => laws_eqReadMarkS.l0 k l l (i : Int)) l.length (fun _ _ => True) (fun _ _ => true) ?_ ?_ () 0 (Nat.zero_le _) trivial
    · intro ys i hi hI ih
      apply Ev.succ
      have h1 : (i : Int) < (l.length : Int) := by omega
      simp only [laws_eqReadMarkS.l0, laws_eqReadMark.f, Option.bind_some, h1, Int.natCast_nonneg, if_true, wrap_up hi hl]
      exact ih () trivial
    · intro ys hI
      apply Ev.succ
      simp only [laws_eqReadMarkS.l0, Int.lt_irrefl, if_false]
      exact Ev.now _
  unfold laws_eqReadMarkS.f
  simp only [if_true]
  exact h

theorem ev_eqVersionS (l : List S52) (hl : l.length ≤ 9223372036854775807) : Ev (fun k => laws_eqVersionS.f k l l) true := by
  have h : Ev (fun k => laws_eqVersionS.l0 k l l ((0 : Nat) : Int)) true := by
    refine ev_up (σ := Unit) (fun _ i k => laws_eqVersionS.l0 k l l (i : Int)) l.length (fun _ _ => True) (fun _ _ => true) ?_ ?_ () 0 (Nat.zero_le _) trivial
    · intro ys i hi hI ih
      apply Ev.succ
      have h1 : (i : Int) < (l.length : Int) := by omega
      simp only [laws_eqVersionS.l0, laws_eqVersion.f, Option.bind_some, h1, Int.natCast_nonneg, if_true, wrap_up hi hl]
      exact ih () trivial
    · intro ys hI
      apply Ev.succ
      simp only [laws_eqVersionS.l0, Int.lt_irrefl, if_false]
      exact Ev.now _
  unfold laws_eqVersionS.f
  simp only [if_true]
  exact h

theorem ev_eqWaitS (l : List S78) (hl : l.length ≤ 9223372036854775807) : Ev (fun k => laws_eqWaitS.f k l l) true := by
  have h : Ev (fun k => laws_eqWaitS.l0 k l l ((0 : Nat) : Int)) true := by
    refine ev_up (σ := Unit) (fun _ i k => laws_eqWaitS.l0 k l l (i : Int)) l.length (fun _ _ => True) (fun _ _ => true) ?_ ?_ () 0 (Nat.zero_le _) trivial
    · intro ys i hi hI ih
      apply Ev.succ
      have h1 : (i : Int) < (l.length : Int) := by omega
      simp only [laws_eqWaitS.l0, laws_eqWait.f, Option.bind_some, h1, Int.natCast_nonneg, if_true, wrap_up hi hl]
      exact ih () trivial
    · intro ys hI
      apply Ev.succ
      simp only [laws_eqWaitS.l0, Int.lt_irrefl, if_false]
      exact Ev.now _
  unfold laws_eqWaitS.f
  simp only [if_true]
  exact h

theorem ev_eqWriteS (l : List S103) (hl : l.length ≤ 9223372036854775807) : Ev (fun k => laws_eqWriteS.f k l l) true := by
  have h : Ev (fun k => laws_eqWriteS.l0 k l l ((0 : Nat) : Int)) true := by
    refine ev_up (σ := Unit) (fun _ i k => laws_eqWriteS.l0 k l l (i : Int)) l.length (fun _ _ => True) (fun _ _ => true) ?_ ?_ () 0 (Nat.zero_le _) trivial
    · intro ys i hi hI ih
      apply Ev.succ
      have h1 : (i : Int) < (l.length : Int) := by omega
      simp only [laws_eqWriteS.l0, laws_eqWrite.f, Option.bind_some, h1, Int.natCast_nonneg, if_true, wrap_up hi hl]
      exact ih () trivial
    · intro ys hI
      apply Ev.succ
      simp only [laws_eqWriteS.l0, Int.lt_irrefl, if_false]
      exact Ev.now _
  unfold laws_eqWriteS.f
  simp only [if_true]
  exact h

def fit_Transaction (x : S114) : Prop := x.f7.length ≤ 1048576 ∧ x.f8.length ≤ 1048576
def lim_Transaction (x : S114) : Prop := x.f7.length ≤ 9223372036854775807 ∧ x.f8.length ≤ 9223372036854775807
def fitd_Transaction (x : S48) : Prop := x.f7.length ≤ 1048576 ∧ x.f8.length ≤ 1048576
theorem sz_Transaction (x : S114) (a : Int) (h0 : 0 ≤ a) (h1 : a ≤ 1048576) (hg : lim_Transaction x) : ∃ r, Ev (fun k => laws_szTransaction.f x.f0 x.f1 x.f2 x.f3 x.f4 x.f5 x.f6 x.f7 x.f8 a) r ∧ r ≤ a ∧ (0 ≤ r → fit_Transaction x) := by
  unfold lim_Transaction at hg
  unfold laws_szTransaction.f fit_Transaction
  obtain ⟨r0, e0, u0, f0⟩ := szx_ReadMark x.f7 a h0 h1 hg.1
  by_cases c0 : r0 < 0
  · exact ⟨-1, Ev.bind e0 (by simp only [c0, if_true]; exact Ev.now _), by omega, fun h => absurd h (by omega)⟩
  obtain ⟨r1, e1, u1, f1⟩ := szx_Write x.f8 r0 (by omega) (by omega) hg.2
  by_cases c1 : r1 < 0
  · exact ⟨-1, Ev.bind e0 (by simp only [c0, if_false]; exact Ev.bind e1 (by simp only [c1, if_true]; exact Ev.now _)), by omega, fun h => absurd h (by omega)⟩
  exact ⟨r1, Ev.bind e0 (by simp only [c0, if_false]; exact Ev.bind e1 (by simp only [c1, if_false]; exact Ev.now _)), by omega, fun _ => ⟨f0 (by omega), f1 (by omega)⟩⟩

theorem sz_TransactionS (l : List S114) (a : Int) (h0 : 0 ≤ a) (h1 : a ≤ 1048576) (hl : l.length ≤ 9223372036854775807) (hg : ∀ e ∈ l, lim_Transaction e) : ∃ r, Ev (fun k => laws_szTransactionS.f k l a) r ∧ r ≤ a ∧ (0 ≤ r → (l.length ≤ 1048576 ∧ ∀ e ∈ l, fit_Transaction e)) := by
  unfold laws_szTransactionS.f
  rw [wrap_in (by omega) (by omega)]
  by_cases h : a - (l.length : Int) < 0
  · simp only [h, if_true]; exact ⟨-1, Ev.now _, by omega, fun h => absurd h (by omega)⟩
  simp only [h, if_false]
  refine ev_to (σ := Int) (fun s i k => laws_szTransactionS.l0 k l s (i : Int)) l.length (fun s i => 0 ≤ s ∧ s ≤ a ∧ ∀ j (hj : j < l.length), j < i → fit_Transaction l[j]) (fun r => r ≤ a ∧ (0 ≤ r → (l.length ≤ 1048576 ∧ ∀ e ∈ l, fit_Transaction e))) ?_ ?_ (a - (l.length : Int)) 0 (Nat.zero_le _) ⟨by omega, by omega, fun j hj h => absurd h (by omega)⟩
  · intro s i hi ⟨hs, hsa, hI⟩ ih
    have h2 : (i : Int) < (l.length : Int) := by omega
    have hrd : rd_T114 l (i : Int) = l[i] := by simp [rd_T114, hi]
    obtain ⟨r, e, hr, hf⟩ := sz_Transaction (rd_T114 l (i : Int)) s hs (by omega) (hg _ (by rw [hrd]; exact List.getElem_mem hi))
    by_cases c : r < 0
    · refine ⟨-1, Ev.succ ?_, by omega, fun h => absurd h (by omega)⟩
      simp only [laws_szTransactionS.l0, h2, Int.natCast_nonneg, if_true]
      exact Ev.bind e (by simp only [c, if_true]; exact Ev.now _)
    · obtain ⟨r', e', h'⟩ := ih r ⟨by omega, by omega, fun j hj hji => if hh : j < i then hI j hj hh else by obtain rfl : j = i := by omega
                                                                                                             rw [← hrd]; exact hf (by omega)⟩
      refine ⟨r', Ev.succ ?_, h'⟩
      simp only [laws_szTransactionS.l0, h2, Int.natCast_nonneg, if_true]
      exact Ev.bind e (by simp only [c, if_false, wrap_up hi (by omega)]; exact e')
  · intro s ⟨hs, hsa, hI⟩
    refine ⟨s, Ev.succ ?_, hsa, fun _ => ⟨by omega, fun e he => ?_⟩⟩
    · simp only [laws_szTransactionS.l0, Int.lt_irrefl, if_false]; exact Ev.now _
    · obtain ⟨j, hj, rfl⟩ := List.getElem_of_mem he
      exact hI j hj hj

def cvTransaction (x : S114) : S48 := ⟨x.f0, x.f1, x.f2, x.f3, x.f4, x.f5, x.f6, x.f7.map cvReadMark, x.f8.map cvWrite⟩
theorem fitd_cvTransaction (x : S114) (h : fit_Transaction x) : fitd_Transaction (cvTransaction x) := by
  simpa [fit_Transaction, fitd_Transaction, cvTransaction] using h

theorem ev_toTransaction (x : S114) (h : fit_Transaction x) : Ev (fun k => laws_toTransaction.f k x.f0 x.f1 x.f2 x.f3 x.f4 x.f5 x.f6 x.f7 x.f8) (x.f0, x.f1, x.f2, x.f3, x.f4, x.f5, x.f6, x.f7.map cvReadMark, x.f8.map cvWrite) := by
  unfold fit_Transaction at h
  unfold laws_toTransaction.f
  exact Ev.bind (ev_toReadMarkS x.f7 h.1) (Ev.bind (ev_toWriteS x.f8 h.2) (Ev.now _))

theorem ev_toTransactionS (l : List S114) (h : l.length ≤ 1048576 ∧ ∀ e ∈ l, fit_Transaction e) : Ev (fun k => laws_toTransactionS.f k l) (l.map cvTransaction) := by
  have hl := h.1
  have hh : Ev (fun k => laws_toTransactionS.l0 k l (List.replicate l.length z48) ((0 : Nat) : Int)) (l.map cvTransaction) := by
    refine ev_up (σ := List S48) (fun ys i k => laws_toTransactionS.l0 k l ys (i : Int)) l.length (fun ys i => Filled (l.map cvTransaction) ys i) (fun _ _ => l.map cvTransaction) ?_ ?_ (List.replicate l.length z48) 0 (Nat.zero_le _) (Filled.start _ _ (by simp))
    · intro ys i hi hI ih
      apply Ev.succ
      have h1 : (i : Int) < (l.length : Int) := by omega
      have h2 : (i : Int) < (ys.length : Int) := by have := hI.1; simp at this; omega
      have hrd : rd_T114 l (i : Int) = l[i] := by simp [rd_T114, hi]
      simp only [laws_toTransactionS.l0, h1, Int.natCast_nonneg, if_true]
      refine Ev.bind (ev_toTransaction _ (by rw [hrd]; exact h.2 _ (List.getElem_mem hi))) ?_
      simp only [h2, if_true, Int.toNat_natCast, wrap_up hi (by omega)]
      exact ih _ (hI.step (by simpa using hi) (by simp [cvTransaction, hrd]))
    · intro ys hI
      apply Ev.succ
      simp only [laws_toTransactionS.l0, Int.lt_irrefl, if_false]
      exact Ev.some (Filled.done (by simpa using hI))
  unfold laws_toTransactionS.f
  have h3 : ((l.length : Int) : Int).toNat ≤ 2706490160679 := by omega
  simp only [Int.natCast_nonneg, if_true, h3]
  simpa using hh
theorem fitds_cvTransaction (l : List S114) (h : l.length ≤ 1048576 ∧ ∀ e ∈ l, fit_Transaction e) : (l.map cvTransaction).length ≤ 1048576 ∧ ∀ e ∈ l.map cvTransaction, fitd_Transaction e := by
  refine ⟨by simpa using h.1, fun e he => ?_⟩
  obtain ⟨x, hx, rfl⟩ := List.mem_map.mp he
  exact fitd_cvTransaction x (h.2 x hx)

theorem ev_eqTransaction (x : S48) (h : fitd_Transaction x) : Ev (fun k => laws_eqTransaction.f k x.f0 x.f1 x.f2 x.f3 x.f4 x.f5 x.f6 x.f7 x.f8 x.f0 x.f1 x.f2 x.f3 x.f4 x.f5 x.f6 x.f7 x.f8) true := by
  unfold fitd_Transaction at h
  unfold laws_eqTransaction.f
  simp only [if_true]
  exact Ev.bind (ev_eqReadMarkS x.f7 (by have := h.1; omega)) (by simp only [if_true]; exact Ev.bind (ev_eqWriteS x.f8 (by have := h.2; omega)) (by simp only [if_true]; exact Ev.now _))

theorem ev_eqTransactionS (l : List S48) (h : l.length ≤ 1048576 ∧ ∀ e ∈ l, fitd_Transaction e) : Ev (fun k => laws_eqTransactionS.f k l l) true := by
  have hl := h.1
  have hh : Ev (fun k => laws_eqTransactionS.l0 k l l ((0 : Nat) : Int)) true := by
    refine ev_up (σ := Unit) (fun _ i k => laws_eqTransactionS.l0 k l l (i : Int)) l.length (fun _ _ => True) (fun _ _ => true) ?_ ?_ () 0 (Nat.zero_le _) trivial
    · intro ys i hi hI ih
      apply Ev.succ
      have h1 : (i : Int) < (l.length : Int) := by omega
      have hrd : rd_T48 l (i : Int) = l[i] := by simp [rd_T48, hi]
      simp only [laws_eqTransactionS.l0, h1, Int.natCast_nonneg, if_true]
      refine Ev.bind (ev_eqTransaction _ (by rw [hrd]; exact h.2 _ (List.getElem_mem hi))) ?_
      simp only [if_true, wrap_up hi (by omega)]
      exact ih () trivial
    · intro ys hI
      apply Ev.succ
      simp only [laws_eqTransactionS.l0, Int.lt_irrefl, if_false]
      exact Ev.now _
  unfold laws_eqTransactionS.f
  simp only [if_true]
  exact hh

theorem sz_VersionSS (l : List (List S171)) (a : Int) (h0 : 0 ≤ a) (h1 : a ≤ 1048576) (hl : l.length ≤ 9223372036854775807) (hg : ∀ e ∈ l, e.length ≤ 9223372036854775807) : ∃ r, Ev (fun k => laws_szVersionSS.f k l a) r ∧ r ≤ a ∧ (0 ≤ r → (l.length ≤ 1048576 ∧ ∀ e ∈ l, e.length ≤ 1048576)) := by
  unfold laws_szVersionSS.f
  rw [wrap_in (by omega) (by omega)]
  by_cases h : a - (l.length : Int) < 0
  · simp only [h, if_true]; exact ⟨-1, Ev.now _, by omega, fun h => absurd h (by omega)⟩
  simp only [h, if_false]
  refine ev_to (σ := Int) (fun s i k => laws_szVersionSS.l0 k l s (i : Int)) l.length (fun s i => 0 ≤ s ∧ s ≤ a ∧ ∀ j (hj : j < l.length), j < i → l[j].length ≤ 1048576) (fun r => r ≤ a ∧ (0 ≤ r → (l.length ≤ 1048576 ∧ ∀ e ∈ l, e.length ≤ 1048576))) ?_ ?_ (a - (l.length : Int)) 0 (Nat.zero_le _) ⟨by omega, by omega, fun j hj h => absurd h (by omega)⟩
  · intro s i hi ⟨hs, hsa, hI⟩ ih
    have h2 : (i : Int) < (l.length : Int) := by omega
    have hrd : rd_L2 l (i : Int) = l[i] := by simp [rd_L2, hi]
    obtain ⟨r, e, hr, hf⟩ := szx_Version (rd_L2 l (i : Int)) s hs (by omega) (by rw [hrd]; exact hg _ (List.getElem_mem hi))
    by_cases c : r < 0
    · refine ⟨-1, Ev.succ ?_, by omega, fun h => absurd h (by omega)⟩
      simp only [laws_szVersionSS.l0, h2, Int.natCast_nonneg, if_true]
      exact Ev.bind e (by simp only [c, if_true]; exact Ev.now _)
    · obtain ⟨r', e', h'⟩ := ih r ⟨by omega, by omega, fun j hj hji => if hh : j < i then hI j hj hh else by obtain rfl : j = i := (by omega); rw [← hrd]; exact hf (by omega)⟩
      refine ⟨r', Ev.succ ?_, h'⟩
      simp only [laws_szVersionSS.l0, h2, Int.natCast_nonneg, if_true]
      exact Ev.bind e (by simp only [c, if_false, wrap_up hi (by omega)]; exact e')
  · intro s ⟨hs, hsa, hI⟩
    refine ⟨s, Ev.succ ?_, hsa, fun _ => ⟨by omega, fun e he => ?_⟩⟩
    · simp only [laws_szVersionSS.l0, Int.lt_irrefl, if_false]; exact Ev.now _
    · obtain ⟨j, hj, rfl⟩ := List.getElem_of_mem he
      exact hI j hj hj

theorem ev_toVersionSS (l : List (List S171)) (h : l.length ≤ 1048576 ∧ ∀ e ∈ l, e.length ≤ 1048576) : Ev (fun k => laws_toVersionSS.f k l) (l.map (List.map cvVersion)) := by
  have hl := h.1
  have hh : Ev (fun k => laws_toVersionSS.l0 k l (List.replicate l.length []) ((0 : Nat) : Int)) (l.map (List.map cvVersion)) := by
    refine ev_up (σ := List (List S52)) (fun ys i k => laws_toVersionSS.l0 k l ys (i : Int)) l.length (fun ys i => Filled (l.map (List.map cvVersion)) ys i) (fun _ _ => l.map (List.map cvVersion)) ?_ ?_ (List.replicate l.length []) 0 (Nat.zero_le _) (Filled.start _ _ (by simp))
    · intro ys i hi hI ih
      apply Ev.succ
      have h1 : (i : Int) < (l.length : Int) := by omega
      have h2 : (i : Int) < (ys.length : Int) := by have := hI.1; simp at this; omega
      have hrd : rd_L2 l (i : Int) = l[i] := by simp [rd_L2, hi]
      simp only [laws_toVersionSS.l0, h1, Int.natCast_nonneg, if_true]
      refine Ev.bind (ev_toVersionS _ (by rw [hrd]; exact h.2 _ (List.getElem_mem hi))) ?_
      simp only [h2, if_true, Int.toNat_natCast, wrap_up hi (by omega)]
      exact ih _ (hI.step (by simpa using hi) (by simp [hrd]))
    · intro ys hI
      apply Ev.succ
      simp only [laws_toVersionSS.l0, Int.lt_irrefl, if_false]
      exact Ev.some (Filled.done (by simpa using hI))
  unfold laws_toVersionSS.f
  have h3 : ((l.length : Int) : Int).toNat ≤ 11728124029610 := by omega
  simp only [Int.natCast_nonneg, if_true, h3]
  simpa using hh

theorem ev_eqVersionSS (l : List (List S52)) (h : l.length ≤ 1048576 ∧ ∀ e ∈ l, e.length ≤ 1048576) : Ev (fun k => laws_eqVersionSS.f k l l) true := by
  have hl := h.1
  have hh : Ev (fun k => laws_eqVersionSS.l0 k l l ((0 : Nat) : Int)) true := by
    refine ev_up (σ := Unit) (fun _ i k => laws_eqVersionSS.l0 k l l (i : Int)) l.length (fun _ _ => True) (fun _ _ => true) ?_ ?_ () 0 (Nat.zero_le _) trivial
    · intro ys i hi hI ih
      apply Ev.succ
      have h1 : (i : Int) < (l.length : Int) := by omega
      have hrd : rd_L11 l (i : Int) = l[i] := by simp [rd_L11, hi]
      simp only [laws_eqVersionSS.l0, h1, Int.natCast_nonneg, if_true]
      refine Ev.bind (ev_eqVersionS _ (by rw [hrd]; have := h.2 _ (List.getElem_mem hi); omega)) ?_
      simp only [if_true, wrap_up hi (by omega)]
      exact ih () trivial
    · intro ys hI
      apply Ev.succ
      simp only [laws_eqVersionSS.l0, Int.lt_irrefl, if_false]
      exact Ev.now _
  unfold laws_eqVersionSS.f
  simp only [if_true]
  exact hh


theorem l1In_eq (a b c : Int) : spec_l1In.f a b c = some (decide (b ≤ a) && decide (a ≤ c)) := by
  by_cases h : b ≤ a <;> simp [spec_l1In.f, h]
theorem in_eq (a b c : Int) : impl_in.f a b c = some (decide (b ≤ a) && decide (a ≤ c)) := by
  by_cases h : b ≤ a <;> simp [impl_in.f, h]
theorem ex_succ {α : Type} {g : Nat → Option α} {P : α → Prop} (h : ∃ r, Ev (fun k => g (k + 1)) r ∧ P r) : ∃ r, Ev g r ∧ P r := by
  obtain ⟨r, a, b⟩ := h
  exact ⟨r, Ev.succ a, b⟩
theorem ex_ite {α : Type} {c : Prop} [Decidable c] {f g : Nat → Option α} {P : α → Prop} (h1 : c → ∃ r, Ev f r ∧ P r) (h2 : ¬ c → ∃ r, Ev g r ∧ P r) : ∃ r, Ev (fun k => if c then f k else g k) r ∧ P r := by
  by_cases h : c
  · simpa only [if_pos h] using h1 h
  · simpa only [if_neg h] using h2 h
theorem ex_now {α : Type} {x : α} {P : α → Prop} (h : P x) : ∃ r, Ev (fun _ => some x) r ∧ P r := ⟨x, Ev.now _, h⟩
theorem ex_bind {α β : Type} {x : Option α} {a : α} (e : x = some a) {g : Nat → α → Option β} {P : β → Prop} (h : ∃ r, Ev (fun k => g k a) r ∧ P r) : ∃ r, Ev (fun k => x.bind (g k)) r ∧ P r := by
  subst e; exact h
theorem ex_bindE {α β : Type} {f : Nat → Option α} {a : α} (e : Ev f a) {g : Nat → α → Option β} {P : β → Prop} (h : ∃ r, Ev (fun k => g k a) r ∧ P r) : ∃ r, Ev (fun k => (f k).bind (g k)) r ∧ P r := by
  obtain ⟨r, h1, h2⟩ := h
  exact ⟨r, Ev.bind e h1, h2⟩
theorem compare_eq (a b : Int) : cmp_Compare_int.f a b = some (if a < b then -1 else if a > b then 1 else 0) := by
  by_cases h : a < b <;> by_cases h' : a > b <;> simp [cmp_Compare_int.f, cmp_isNaN_int.f, h, h']
theorem ev_or (x y : Int) : Ev (fun k => cmp_Or_int.f k [x, y]) (if x = 0 then y else x) := by
  show Ev (fun k => cmp_Or_int.l0 k 0 [x, y] (2 : Int) 0) _
  apply Ev.succ
  by_cases hx : x = 0
  · simp only [cmp_Or_int.l0, hx, rd, wrap64, if_true]
    apply Ev.succ
    by_cases hy : y = 0
    · subst hy
      simp [cmp_Or_int.l0, rd, wrap64]
      apply Ev.succ
      simp [cmp_Or_int.l0]; exact Ev.now _
    · simp [cmp_Or_int.l0, rd, wrap64, hy]; exact Ev.now _
  · simp [cmp_Or_int.l0, rd, hx]; exact Ev.now _
theorem ev_cmp (a b c d : Int) : ∃ v, Ev (fun k => impl_compareMarks.f k a b c d) v ∧ spec_l5Before.f a b c d = some (decide (v < 0)) := by
  refine ⟨if (if a < c then -1 else if a > c then 1 else 0) = (0 : Int) then (if b < d then -1 else if b > d then 1 else 0) else (if a < c then -1 else if a > c then 1 else 0), ?_, ?_⟩
  · unfold impl_compareMarks.f
    simp only [compare_eq, Option.bind_some]
    exact Ev.bind (ev_or _ _) (Ev.now _)
  · unfold spec_l5Before.f
    by_cases h1 : a < c
    · simp [h1]
    · by_cases h2 : a > c
      · have h3 : ¬ a = c := by omega
        simp [h1, h2, h3]
      · have h3 : a = c := by omega
        by_cases h4 : b < d
        · simp [h3, h4]
        · by_cases h5 : b > d <;> simp [h3, h4, h5]
theorem both_reads (a0 a1 a2 a3 a4 a5 a6 : Int) (rs : List S116) (ws : List S103) (hl : rs.length ≤ 1048576) (r : Bool) (hr : Ev (fun k => spec_IsValidTransaction.l1 k 0 a0 a1 a2 a3 a4 a5 a6 rs ws) r) :
    ∃ x y, Ev (fun k => impl_areReads.f k rs) x ∧ Ev (fun k => spec_IsValidTransaction.l0 k ((0 : Nat) : Int) a0 a1 a2 a3 a4 a5 a6 rs ws) y ∧ ∃ rb : Bool, x = (rb && decide ((rs.length : Int) ≤ 60)) ∧ y = (rb && r) := by
  refine ev_two (σ := Unit) (τ := Unit) (fun _ i k => impl_areReads.l0 k rs rs (rs.length : Int) (i : Int)) (fun _ i k => spec_IsValidTransaction.l0 k (i : Int) a0 a1 a2 a3 a4 a5 a6 rs ws) rs.length (fun _ _ _ => True) (fun x y => ∃ rb : Bool, x = (rb && decide ((rs.length : Int) ≤ 60)) ∧ y = (rb && r)) ?_ ?_ () () 0 (Nat.zero_le _) trivial
  · intro _ _ i hi _ ih
    have h1 : (i : Int) < (rs.length : Int) := by omega
    have e0 := wrap_up hi (by omega)
    obtain ⟨x, y, hx, hy, rb, rfl, rfl⟩ := ih () () trivial
    have iT : Ev (fun k => impl_areReads.j1 k rs (i : Int) rs (rs.length : Int) true) false := Ev.succ (by simp only [impl_areReads.j1, if_true]; exact Ev.now _)
    have sT : Ev (fun k => spec_IsValidTransaction.j1 k (i : Int) true a0 a1 a2 a3 a4 a5 a6 rs ws) false := Ev.succ (by simp only [spec_IsValidTransaction.j1, if_true]; exact Ev.now _)
    have iF : Ev (fun k => impl_areReads.j1 k rs (i : Int) rs (rs.length : Int) false) (rb && decide ((rs.length : Int) ≤ 60)) := Ev.succ (by simp only [impl_areReads.j1, Bool.false_eq_true, if_false, e0]; exact hx)
    have sF : Ev (fun k => spec_IsValidTransaction.j1 k (i : Int) false a0 a1 a2 a3 a4 a5 a6 rs ws) (rb && r) := Ev.succ (by simp only [spec_IsValidTransaction.j1, Bool.false_eq_true, if_false, e0]; exact hy)
    by_cases ck : (decide (0 ≤ (rd_T116 rs (i : Int)).f0) && decide ((rd_T116 rs (i : Int)).f0 ≤ 5)) = true
    rotate_left 1
    · refine ⟨false, false, Ev.succ ?_, Ev.succ ?_, false, by simp, by simp⟩
      · simp only [impl_areReads.l0, impl_isKey.f, in_eq, h1, ck, Int.natCast_nonneg, if_true, if_false, Option.bind_some]; exact iT
      · simp only [spec_IsValidTransaction.l0, l1In_eq, h1, ck, Int.natCast_nonneg, if_true, if_false, Option.bind_some]; exact sT
    by_cases cc : (decide (0 ≤ (rd_T116 rs (i : Int)).f1) && decide ((rd_T116 rs (i : Int)).f1 ≤ 999)) = true
    rotate_left 1
    · refine ⟨false, false, Ev.succ ?_, Ev.succ ?_, false, by simp, by simp⟩
      · simp only [impl_areReads.l0, impl_isKey.f, in_eq, h1, ck, cc, Int.natCast_nonneg, if_true, if_false, Option.bind_some]; exact iT
      · simp only [spec_IsValidTransaction.l0, l1In_eq, h1, ck, cc, Int.natCast_nonneg, if_true, if_false, Option.bind_some]; exact sT
    by_cases h0 : 0 < i
    · have e1 : wrap64 ((i : Int) - 1) = ((i - 1 : Nat) : Int) := wrap_down h0 (by omega)
      have h2 : ((i - 1 : Nat) : Int) < (rs.length : Int) := by omega
      have h3 : (i : Int) > 0 := by omega
      obtain ⟨v, ev, hb⟩ := ev_cmp (rd_T116 rs ((i - 1 : Nat) : Int)).f0 (rd_T116 rs ((i - 1 : Nat) : Int)).f1 (rd_T116 rs (i : Int)).f0 (rd_T116 rs (i : Int)).f1
      by_cases hv : v < 0
      · have hv' : ¬ v ≥ 0 := by omega
        refine ⟨(rb && decide ((rs.length : Int) ≤ 60)), (rb && r), Ev.succ ?_, Ev.succ ?_, rb, rfl, rfl⟩
        · simp only [impl_areReads.l0, impl_isKey.f, in_eq, h1, h2, h3, e1, ck, cc, Int.natCast_nonneg, if_true, Option.bind_some]
          refine Ev.bind ev ?_
          simp only [hv', decide_false]; exact iF
        · simp only [spec_IsValidTransaction.l0, l1In_eq, hb, hv, h1, h2, h3, e1, ck, cc, Int.natCast_nonneg, if_true, Option.bind_some, decide_true, Bool.not_true]; exact sF
      · have hv' : v ≥ 0 := by omega
        refine ⟨false, false, Ev.succ ?_, Ev.succ ?_, false, by simp, by simp⟩
        · simp only [impl_areReads.l0, impl_isKey.f, in_eq, h1, h2, h3, e1, ck, cc, Int.natCast_nonneg, if_true, Option.bind_some]
          refine Ev.bind ev ?_
          simp only [hv', decide_true]; exact iT
        · simp only [spec_IsValidTransaction.l0, l1In_eq, hb, hv, h1, h2, h3, e1, ck, cc, Int.natCast_nonneg, if_true, Option.bind_some, decide_false, Bool.not_false]; exact sT
    · have h3 : ¬ (i : Int) > 0 := by omega
      refine ⟨(rb && decide ((rs.length : Int) ≤ 60)), (rb && r), Ev.succ ?_, Ev.succ ?_, rb, rfl, rfl⟩
      · simp only [impl_areReads.l0, impl_isKey.f, in_eq, h1, h3, ck, cc, Int.natCast_nonneg, if_true, if_false, Option.bind_some]; exact iF
      · simp only [spec_IsValidTransaction.l0, l1In_eq, h1, h3, ck, cc, Int.natCast_nonneg, if_true, if_false, Option.bind_some]; exact sF
  · intro _ _ _
    refine ⟨decide ((rs.length : Int) ≤ 60), r, Ev.succ ?_, Ev.succ ?_, true, (Bool.true_and _).symm, (Bool.true_and _).symm⟩
    · simp only [impl_areReads.l0, Int.lt_irrefl, if_false]; exact Ev.now _
    · simp only [spec_IsValidTransaction.l0, Int.lt_irrefl, if_false]; exact hr
def tailOf (a0 a1 a2 a3 a4 a5 a6 : Int) (n : Int) : Bool :=
  ((decide (1 ≤ a0) && decide (a0 ≤ 9)) && ((decide (1 ≤ a1) && decide (a1 ≤ 4)) && (decide (0 ≤ a3) && decide (a3 ≤ 999)))) &&
  ((decide (1 ≤ a2) && decide (a2 ≤ 3)) && ((decide (0 ≤ a4) && decide (a4 ≤ 999)) && ((decide (1 ≤ a5) && decide (a5 ≤ 1000)) && (((a2 == 2) == decide (a6 > 0)) && ((decide (0 ≤ a6) && decide (a6 ≤ 999)) && decide (n ≤ 60))))))
theorem both_writes (a0 a1 a2 a3 a4 a5 a6 : Int) (rs : List S116) (ws : List S103) (hl : ws.length ≤ 1048576) :
    ∃ x y, Ev (fun k => impl_areWrites.f k ws) x ∧ Ev (fun k => spec_IsValidTransaction.l1 k ((0 : Nat) : Int) a0 a1 a2 a3 a4 a5 a6 rs ws) y ∧ y = (x && tailOf a0 a1 a2 a3 a4 a5 a6 (rs.length : Int)) := by
  refine ev_two (σ := Unit) (τ := Unit) (fun _ i k => impl_areWrites.l0 k ws ws (ws.length : Int) (i : Int)) (fun _ i k => spec_IsValidTransaction.l1 k (i : Int) a0 a1 a2 a3 a4 a5 a6 rs ws) ws.length (fun _ _ _ => True) (fun x y => y = (x && tailOf a0 a1 a2 a3 a4 a5 a6 (rs.length : Int))) ?_ ?_ () () 0 (Nat.zero_le _) trivial
  · intro _ _ i hi _ ih
    have h1 : (i : Int) < (ws.length : Int) := by omega
    have e0 := wrap_up hi (by omega)
    obtain ⟨x, y, hx, hy, rfl⟩ := ih () () trivial
    have iT : Ev (fun k => impl_areWrites.j1 k ws (i : Int) ws (ws.length : Int) true) false := Ev.succ (by simp only [impl_areWrites.j1, if_true]; exact Ev.now _)
    have sT : Ev (fun k => spec_IsValidTransaction.j3 k (i : Int) true a0 a1 a2 a3 a4 a5 a6 rs ws) false := Ev.succ (by simp only [spec_IsValidTransaction.j3, if_true]; exact Ev.now _)
    have iF : Ev (fun k => impl_areWrites.j1 k ws (i : Int) ws (ws.length : Int) false) x := Ev.succ (by simp only [impl_areWrites.j1, Bool.false_eq_true, if_false, e0]; exact hx)
    have sF : Ev (fun k => spec_IsValidTransaction.j3 k (i : Int) false a0 a1 a2 a3 a4 a5 a6 rs ws) (x && tailOf a0 a1 a2 a3 a4 a5 a6 (rs.length : Int)) := Ev.succ (by simp only [spec_IsValidTransaction.j3, Bool.false_eq_true, if_false, e0]; exact hy)
    by_cases ck : (decide (0 ≤ (rd_T103 ws (i : Int)).f0) && decide ((rd_T103 ws (i : Int)).f0 ≤ 5)) = true
    rotate_left 1
    · refine ⟨false, false, Ev.succ ?_, Ev.succ ?_, by simp⟩
      · simp only [impl_areWrites.l0, impl_isKey.f, in_eq, h1, ck, Int.natCast_nonneg, if_true, if_false, Option.bind_some]; exact iT
      · simp only [spec_IsValidTransaction.l1, l1In_eq, h1, ck, Int.natCast_nonneg, if_true, if_false, Option.bind_some]; exact sT
    by_cases cc : (decide (-1 ≤ (rd_T103 ws (i : Int)).f1) && decide ((rd_T103 ws (i : Int)).f1 ≤ 99)) = true
    rotate_left 1
    · refine ⟨false, false, Ev.succ ?_, Ev.succ ?_, by simp⟩
      · simp only [impl_areWrites.l0, impl_isKey.f, impl_isValue.f, in_eq, h1, ck, cc, Int.natCast_nonneg, if_true, if_false, Option.bind_some]; exact iT
      · simp only [spec_IsValidTransaction.l1, l1In_eq, h1, ck, cc, Int.natCast_nonneg, if_true, if_false, Option.bind_some]; exact sT
    by_cases h0 : 0 < i
    · have e1 : wrap64 ((i : Int) - 1) = ((i - 1 : Nat) : Int) := wrap_down h0 (by omega)
      have h2 : ((i - 1 : Nat) : Int) < (ws.length : Int) := by omega
      have h3 : (i : Int) > 0 := by omega
      by_cases hv : (rd_T103 ws ((i - 1 : Nat) : Int)).f0 ≥ (rd_T103 ws (i : Int)).f0
      · refine ⟨false, false, Ev.succ ?_, Ev.succ ?_, by simp⟩
        · simp only [impl_areWrites.l0, impl_isKey.f, impl_isValue.f, in_eq, h1, h2, h3, e1, hv, ck, cc, Int.natCast_nonneg, if_true, Option.bind_some, decide_true]; exact iT
        · simp only [spec_IsValidTransaction.l1, l1In_eq, h1, h2, h3, e1, hv, ck, cc, Int.natCast_nonneg, if_true, Option.bind_some, decide_true]; exact sT
      · refine ⟨x, (x && tailOf a0 a1 a2 a3 a4 a5 a6 (rs.length : Int)), Ev.succ ?_, Ev.succ ?_, rfl⟩
        · simp only [impl_areWrites.l0, impl_isKey.f, impl_isValue.f, in_eq, h1, h2, h3, e1, hv, ck, cc, Int.natCast_nonneg, if_true, Option.bind_some, decide_false]; exact iF
        · simp only [spec_IsValidTransaction.l1, l1In_eq, h1, h2, h3, e1, hv, ck, cc, Int.natCast_nonneg, if_true, Option.bind_some, decide_false]; exact sF
    · have h3 : ¬ (i : Int) > 0 := by omega
      refine ⟨x, (x && tailOf a0 a1 a2 a3 a4 a5 a6 (rs.length : Int)), Ev.succ ?_, Ev.succ ?_, rfl⟩
      · simp only [impl_areWrites.l0, impl_isKey.f, impl_isValue.f, in_eq, h1, h3, ck, cc, Int.natCast_nonneg, if_true, if_false, Option.bind_some]; exact iF
      · simp only [spec_IsValidTransaction.l1, l1In_eq, h1, h3, ck, cc, Int.natCast_nonneg, if_true, if_false, Option.bind_some]; exact sF
  · intro _ _ _
    refine ⟨true, tailOf a0 a1 a2 a3 a4 a5 a6 (rs.length : Int), Ev.succ ?_, Ev.succ ?_, (Bool.true_and _).symm⟩
    · simp only [impl_areWrites.l0, Int.lt_irrefl, if_false]; exact Ev.now _
    · have jT : Ev (fun k => spec_IsValidTransaction.j4 k true a0 a1 a2 a3 a4 a5 a6 rs ws) false := Ev.succ (by simp only [spec_IsValidTransaction.j4, if_true]; exact Ev.now _)
      have jF : Ev (fun k => spec_IsValidTransaction.j4 k false a0 a1 a2 a3 a4 a5 a6 rs ws) ((decide (1 ≤ a2) && decide (a2 ≤ 3)) && ((decide (0 ≤ a4) && decide (a4 ≤ 999)) && ((decide (1 ≤ a5) && decide (a5 ≤ 1000)) && (((a2 == 2) == decide (a6 > 0)) && ((decide (0 ≤ a6) && decide (a6 ≤ 999)) && decide ((rs.length : Int) ≤ 60)))))) := by
        apply Ev.succ
        simp only [spec_IsValidTransaction.j4, Bool.false_eq_true, if_false, l1In_eq, Option.bind_some]
        generalize (decide (1 ≤ a2) && decide (a2 ≤ 3)) = b2
        generalize (decide (0 ≤ a4) && decide (a4 ≤ 999)) = b4
        generalize (decide (1 ≤ a5) && decide (a5 ≤ 1000)) = b5
        generalize ((a2 == 2) == decide (a6 > 0)) = b6
        generalize (decide (0 ≤ a6) && decide (a6 ≤ 999)) = b7
        cases b2 <;> cases b4 <;> cases b5 <;> cases b6 <;> cases b7 <;> simp only [Bool.false_eq_true, if_false, if_true, Bool.false_and, Bool.true_and] <;> exact Ev.now _
      simp only [spec_IsValidTransaction.l1, Int.lt_irrefl, if_false, l1In_eq, Option.bind_some]
      unfold tailOf
      revert jF
      generalize ((decide (1 ≤ a2) && decide (a2 ≤ 3)) && ((decide (0 ≤ a4) && decide (a4 ≤ 999)) && ((decide (1 ≤ a5) && decide (a5 ≤ 1000)) && (((a2 == 2) == decide (a6 > 0)) && ((decide (0 ≤ a6) && decide (a6 ≤ 999)) && decide ((rs.length : Int) ≤ 60)))))) = bt
      intro jF
      generalize (decide (1 ≤ a0) && decide (a0 ≤ 9)) = b0
      generalize (decide (1 ≤ a1) && decide (a1 ≤ 4)) = b1
      generalize (decide (0 ≤ a3) && decide (a3 ≤ 999)) = b3
      cases b0 <;> cases b1 <;> cases b3 <;> simp only [Bool.false_eq_true, if_false, if_true, Bool.false_and, Bool.true_and, Bool.not_true, Bool.not_false, Bool.and_false, Bool.and_true] <;> first | exact jT | exact jF
theorem reads_keys (rs : List S116) (hl : rs.length ≤ 1048576) : ∃ x, Ev (fun k => impl_areReads.f k rs) x ∧ (x = true → ∀ j : Nat, j < rs.length → 0 ≤ (rd_T116 rs (j : Int)).f0 ∧ (rd_T116 rs (j : Int)).f0 ≤ 5) := by
  refine ev_to (σ := Unit) (fun _ i k => impl_areReads.l0 k rs rs (rs.length : Int) (i : Int)) rs.length (fun _ i => ∀ j : Nat, j < i → 0 ≤ (rd_T116 rs (j : Int)).f0 ∧ (rd_T116 rs (j : Int)).f0 ≤ 5) (fun x => x = true → ∀ j : Nat, j < rs.length → 0 ≤ (rd_T116 rs (j : Int)).f0 ∧ (rd_T116 rs (j : Int)).f0 ≤ 5) ?_ ?_ () 0 (Nat.zero_le _) (fun j hj => absurd hj (by omega))
  · intro _ i hi hI ih
    have h1 : (i : Int) < (rs.length : Int) := by omega
    have e0 := wrap_up hi (by omega)
    have iT : Ev (fun k => impl_areReads.j1 k rs (i : Int) rs (rs.length : Int) true) false := Ev.succ (by simp only [impl_areReads.j1, if_true]; exact Ev.now _)
    by_cases ck : (decide (0 ≤ (rd_T116 rs (i : Int)).f0) && decide ((rd_T116 rs (i : Int)).f0 ≤ 5)) = true
    rotate_left 1
    · refine ⟨false, Ev.succ ?_, fun h => nomatch h⟩
      simp only [impl_areReads.l0, impl_isKey.f, in_eq, h1, ck, Int.natCast_nonneg, if_true, if_false, Option.bind_some]; exact iT
    have hk : 0 ≤ (rd_T116 rs (i : Int)).f0 ∧ (rd_T116 rs (i : Int)).f0 ≤ 5 := by simpa using ck
    obtain ⟨x, hx, hR⟩ := ih () (fun j hj => if hh : j < i then hI j hh else by obtain rfl : j = i := (by omega); exact hk)
    have iF : Ev (fun k => impl_areReads.j1 k rs (i : Int) rs (rs.length : Int) false) x := Ev.succ (by simp only [impl_areReads.j1, Bool.false_eq_true, if_false, e0]; exact hx)
    by_cases cc : (decide (0 ≤ (rd_T116 rs (i : Int)).f1) && decide ((rd_T116 rs (i : Int)).f1 ≤ 999)) = true
    rotate_left 1
    · refine ⟨false, Ev.succ ?_, fun h => nomatch h⟩
      simp only [impl_areReads.l0, impl_isKey.f, in_eq, h1, ck, cc, Int.natCast_nonneg, if_true, if_false, Option.bind_some]; exact iT
    by_cases h0 : 0 < i
    · have e1 : wrap64 ((i : Int) - 1) = ((i - 1 : Nat) : Int) := wrap_down h0 (by omega)
      have h2 : ((i - 1 : Nat) : Int) < (rs.length : Int) := by omega
      have h3 : (i : Int) > 0 := by omega
      obtain ⟨v, ev, _⟩ := ev_cmp (rd_T116 rs ((i - 1 : Nat) : Int)).f0 (rd_T116 rs ((i - 1 : Nat) : Int)).f1 (rd_T116 rs (i : Int)).f0 (rd_T116 rs (i : Int)).f1
      by_cases hv : v ≥ 0
      · refine ⟨false, Ev.succ ?_, fun h => nomatch h⟩
        simp only [impl_areReads.l0, impl_isKey.f, in_eq, h1, h2, h3, e1, ck, cc, Int.natCast_nonneg, if_true, Option.bind_some]
        refine Ev.bind ev ?_
        simp only [hv, decide_true]; exact iT
      · refine ⟨x, Ev.succ ?_, hR⟩
        simp only [impl_areReads.l0, impl_isKey.f, in_eq, h1, h2, h3, e1, ck, cc, Int.natCast_nonneg, if_true, Option.bind_some]
        refine Ev.bind ev ?_
        simp only [hv, decide_false]; exact iF
    · have h3 : ¬ (i : Int) > 0 := by omega
      refine ⟨x, Ev.succ ?_, hR⟩
      simp only [impl_areReads.l0, impl_isKey.f, in_eq, h1, h3, ck, cc, Int.natCast_nonneg, if_true, if_false, Option.bind_some]; exact iF
  · intro _ hI
    refine ⟨decide ((rs.length : Int) ≤ 60), Ev.succ ?_, fun _ j hj => hI j hj⟩
    simp only [impl_areReads.l0, Int.lt_irrefl, if_false]; exact Ev.now _
theorem both_IsValidTransaction5 (a0 a1 a2 a3 a4 a5 a6 : Int) (rs : List S116) (ws : List S103) (hl : rs.length ≤ 1048576) (hw : ws.length ≤ 1048576) :
    ∃ b : Bool, Ev (fun k => spec_IsValidTransaction.f k a0 a1 a2 a3 a4 a5 a6 rs ws) b ∧ Ev (fun k => impl_IsValidTransaction.f k a0 a1 a2 a3 a4 a5 a6 rs ws) b ∧ (b = true → (a2 = 2 ∨ a6 = 0) ∧ ∀ j : Nat, j < rs.length → 0 ≤ (rd_T116 rs (j : Int)).f0 ∧ (rd_T116 rs (j : Int)).f0 ≤ 5) := by
  obtain ⟨wk, hwk, hkeys⟩ := reads_keys rs hl
  obtain ⟨wb, y1, hwi, hws, rfl⟩ := both_writes a0 a1 a2 a3 a4 a5 a6 rs ws hw
  obtain ⟨x, y, hri, hrs, rb, rfl, rfl⟩ := both_reads a0 a1 a2 a3 a4 a5 a6 rs ws hl _ hws
  have hc : (((a2 == 2) == decide (a6 > 0)) && (decide (0 ≤ a6) && decide (a6 ≤ 999))) = (if a2 = 2 then (decide (1 ≤ a6) && decide (a6 ≤ 999)) else (a6 == 0)) := by
    by_cases c2 : a2 = 2
    · by_cases d1 : 1 ≤ a6
      · have d0 : a6 > 0 := by omega
        have d3 : 0 ≤ a6 := by omega
        simp [c2, d1, d0, d3]
      · have d0 : ¬ a6 > 0 := by omega
        simp [c2, d1, d0]
    · by_cases d1 : a6 = 0
      · simp [c2, d1]
      · by_cases d0 : a6 > 0
        · have e2 : (a2 == 2) = false := by simpa using c2
          have e6 : (a6 == 0) = false := by simpa using d1
          simp [c2, e2, e6, d0]
        · have d3 : ¬ 0 ≤ a6 := by omega
          simp [c2, d1, d0, d3]
  have jT : Ev (fun k => impl_IsValidTransaction.j0 k true a0 a1 a2 a3 a4 a5 a6 rs ws) false := Ev.succ (by simp only [impl_IsValidTransaction.j0, if_true]; exact Ev.now _)
  have kT : Ev (fun k => impl_IsValidTransaction.j1 k true a0 a1 a2 a3 a4 a5 a6 rs ws) false := Ev.succ (by simp only [impl_IsValidTransaction.j1, if_true]; exact Ev.now _)
  have kF : Ev (fun k => impl_IsValidTransaction.j1 k false a0 a1 a2 a3 a4 a5 a6 rs ws) ((rb && decide ((rs.length : Int) ≤ 60)) && wb) := by
    apply Ev.succ
    simp only [impl_IsValidTransaction.j1, Bool.false_eq_true, if_false]
    refine Ev.bind hri ?_
    cases (rb && decide ((rs.length : Int) ≤ 60))
    · simp only [Bool.false_eq_true, if_false, Bool.false_and]; exact Ev.now _
    · simp only [if_true, Bool.true_and]; exact Ev.bind hwi (Ev.now _)
  have jF : Ev (fun k => impl_IsValidTransaction.j0 k false a0 a1 a2 a3 a4 a5 a6 rs ws) ((if a2 = 2 then (decide (1 ≤ a6) && decide (a6 ≤ 999)) else (a6 == 0)) && ((rb && decide ((rs.length : Int) ≤ 60)) && wb)) := by
    apply Ev.succ
    simp only [impl_IsValidTransaction.j0, impl_IsStamp.f, in_eq, Bool.false_eq_true, if_false, Option.bind_some]
    by_cases c2 : a2 = 2
    · simp only [c2, if_true]
      rw [c2] at kT kF
      cases (decide (1 ≤ a6) && decide (a6 ≤ 999))
      · simp only [Bool.false_eq_true, if_false, Bool.false_and]; exact kT
      · simp only [if_true, Bool.true_and]; exact kF
    · simp only [c2, if_false]
      by_cases c6 : a6 = 0
      · have : (a6 != 0) = false := by simp [c6]
        have h6 : (a6 == 0) = true := by simp [c6]
        simp only [this, h6, Bool.true_and]; exact kF
      · have : (a6 != 0) = true := by simp [c6]
        have h6 : (a6 == 0) = false := by simp [c6]
        simp only [this, h6, Bool.false_and]; exact kT
  have hi : Ev (fun k => impl_IsValidTransaction.f k a0 a1 a2 a3 a4 a5 a6 rs ws) ((decide (1 ≤ a0) && decide (a0 ≤ 9)) && ((decide (1 ≤ a1) && decide (a1 ≤ 4)) && ((decide (1 ≤ a2) && decide (a2 ≤ 3)) && ((decide (0 ≤ a3) && decide (a3 ≤ 999)) && ((decide (0 ≤ a4) && decide (a4 ≤ 999)) && ((decide (1 ≤ a5) && decide (a5 ≤ 1000)) && ((if a2 = 2 then (decide (1 ≤ a6) && decide (a6 ≤ 999)) else (a6 == 0)) && ((rb && decide ((rs.length : Int) ≤ 60)) && wb)))))))) := by
    revert jF
    generalize ((if a2 = 2 then (decide (1 ≤ a6) && decide (a6 ≤ 999)) else (a6 == 0)) && ((rb && decide ((rs.length : Int) ≤ 60)) && wb)) = bt
    intro jF
    unfold impl_IsValidTransaction.f
    simp only [impl_isID.f, impl_isScheme.f, in_eq, Option.bind_some]
    generalize (decide (1 ≤ a0) && decide (a0 ≤ 9)) = b0
    generalize (decide (1 ≤ a1) && decide (a1 ≤ 4)) = b1
    generalize (decide (1 ≤ a2) && decide (a2 ≤ 3)) = b2
    generalize (decide (0 ≤ a3) && decide (a3 ≤ 999)) = b3
    generalize (decide (0 ≤ a4) && decide (a4 ≤ 999)) = b4
    generalize (decide (1 ≤ a5) && decide (a5 ≤ 1000)) = b5
    cases b0 <;> cases b1 <;> cases b2 <;> cases b3 <;> cases b4 <;> cases b5 <;> simp only [Bool.false_eq_true, if_false, if_true, Bool.false_and, Bool.true_and, Bool.not_true, Bool.not_false, Bool.and_false, Bool.and_true] <;> first | exact jT | exact jF
  refine ⟨_, hrs, ?_, ?_⟩
  · have he : (rb && (wb && tailOf a0 a1 a2 a3 a4 a5 a6 (rs.length : Int))) = _ := rfl
    have heq : (rb && (wb && tailOf a0 a1 a2 a3 a4 a5 a6 (rs.length : Int))) = ((decide (1 ≤ a0) && decide (a0 ≤ 9)) && ((decide (1 ≤ a1) && decide (a1 ≤ 4)) && ((decide (1 ≤ a2) && decide (a2 ≤ 3)) && ((decide (0 ≤ a3) && decide (a3 ≤ 999)) && ((decide (0 ≤ a4) && decide (a4 ≤ 999)) && ((decide (1 ≤ a5) && decide (a5 ≤ 1000)) && ((if a2 = 2 then (decide (1 ≤ a6) && decide (a6 ≤ 999)) else (a6 == 0)) && ((rb && decide ((rs.length : Int) ≤ 60)) && wb)))))))) := by
      rw [← hc]
      unfold tailOf
      generalize (decide (1 ≤ a0) && decide (a0 ≤ 9)) = b0
      generalize (decide (1 ≤ a1) && decide (a1 ≤ 4)) = b1
      generalize (decide (1 ≤ a2) && decide (a2 ≤ 3)) = b2
      generalize (decide (0 ≤ a3) && decide (a3 ≤ 999)) = b3
      generalize (decide (0 ≤ a4) && decide (a4 ≤ 999)) = b4
      generalize (decide (1 ≤ a5) && decide (a5 ≤ 1000)) = b5
      generalize ((a2 == 2) == decide (a6 > 0)) = b6
      generalize (decide (0 ≤ a6) && decide (a6 ≤ 999)) = b7
      generalize decide ((rs.length : Int) ≤ 60) = b8
      cases b0 <;> cases b1 <;> cases b2 <;> cases b3 <;> cases b4 <;> cases b5 <;> cases b6 <;> cases b7 <;> cases b8 <;> cases rb <;> cases wb <;> rfl
    rw [heq]; exact hi
  · intro hb
    simp only [tailOf, Bool.and_eq_true] at hb
    obtain ⟨hrb, _, _, _, _, _, h6, h7, h8⟩ := hb
    refine ⟨?_, hkeys ((Ev.uniq hwk hri).trans (by rw [hrb, h8]; rfl))⟩
    by_cases c2 : a2 = 2
    · exact .inl c2
    · have hcc := hc
      rw [h6, Bool.true_and, if_neg c2] at hcc
      have : (decide (0 ≤ a6) && decide (a6 ≤ 999)) = true := by simp only [Bool.and_eq_true]; exact h7
      rw [this] at hcc
      exact .inr (by simpa using hcc.symm)
def vok (a0 a1 a2 a3 a4 : Int) : Bool := (decide (-1 ≤ a1) && decide (a1 ≤ 99)) && ((decide (0 ≤ a2) && decide (a2 ≤ 999)) && ((decide (a2 ≤ a3) && decide (a3 ≤ 999)) && ((decide (1 ≤ a4) && decide (a4 ≤ 1000)) && (if a2 = 0 then (if a0 = 0 then (a1 == -1) else false) else (decide (1 ≤ a0) && decide (a0 ≤ 9))))))
theorem version_both (a0 a1 a2 a3 a4 : Int) : Ev (fun k => spec_IsValidVersion.f k a0 a1 a2 a3 a4) (vok a0 a1 a2 a3 a4) ∧ Ev (fun k => impl_IsValidVersion.f k a0 a1 a2 a3 a4) (vok a0 a1 a2 a3 a4) := by
  have jS : ∀ t : Bool, Ev (fun k => spec_IsValidVersion.j0 k t a0 a1 a2 a3 a4) (!t && (if a2 = 0 then (if a0 = 0 then (a1 == -1) else false) else (decide (1 ≤ a0) && decide (a0 ≤ 9)))) := by
    intro t
    apply Ev.succ
    cases t
    · simp only [spec_IsValidVersion.j0, l1In_eq, Bool.false_eq_true, if_false, Option.bind_some, Bool.not_false, Bool.true_and]
      by_cases c : a2 = 0 <;> by_cases d : a0 = 0 <;> simp only [c, d, if_true, if_false] <;> exact Ev.now _
    · simp only [spec_IsValidVersion.j0, if_true, Bool.not_true, Bool.false_and]; exact Ev.now _
  have jI : ∀ t : Bool, Ev (fun k => impl_IsValidVersion.j0 k t a0 a1 a2 a3 a4) (!t && (if a2 = 0 then (if a0 = 0 then (a1 == -1) else false) else (decide (1 ≤ a0) && decide (a0 ≤ 9)))) := by
    intro t
    apply Ev.succ
    cases t
    · simp only [impl_IsValidVersion.j0, impl_isID.f, in_eq, Bool.false_eq_true, if_false, Option.bind_some, Bool.not_false, Bool.true_and]
      by_cases c : a2 = 0 <;> by_cases d : a0 = 0 <;> simp only [c, d, if_true, if_false] <;> exact Ev.now _
    · simp only [impl_IsValidVersion.j0, if_true, Bool.not_true, Bool.false_and]; exact Ev.now _
  unfold vok
  revert jS jI
  generalize (if a2 = 0 then (if a0 = 0 then (a1 == -1) else false) else (decide (1 ≤ a0) && decide (a0 ≤ 9))) = v
  intro jS jI
  constructor
  · unfold spec_IsValidVersion.f
    simp only [l1In_eq, Option.bind_some]
    cases (decide (-1 ≤ a1) && decide (a1 ≤ 99)) <;> cases (decide (0 ≤ a2) && decide (a2 ≤ 999)) <;> cases (decide (a2 ≤ a3) && decide (a3 ≤ 999)) <;> cases (decide (1 ≤ a4) && decide (a4 ≤ 1000)) <;> simp only [Bool.false_eq_true, if_false, if_true, Bool.false_and, Bool.true_and] <;> first | exact jS true | exact jS false
  · unfold impl_IsValidVersion.f
    simp only [impl_isValue.f, in_eq, Option.bind_some]
    cases (decide (-1 ≤ a1) && decide (a1 ≤ 99)) <;> cases (decide (0 ≤ a2) && decide (a2 ≤ 999)) <;> cases (decide (a2 ≤ a3) && decide (a3 ≤ 999)) <;> cases (decide (1 ≤ a4) && decide (a4 ≤ 1000)) <;> simp only [Bool.false_eq_true, if_false, if_true, Bool.false_and, Bool.true_and] <;> first | exact jI true | exact jI false
theorem vok_stamp {a0 a1 a2 a3 a4 : Int} (h : vok a0 a1 a2 a3 a4 = true) : 0 ≤ a2 ∧ a2 ≤ 999 := by
  unfold vok at h
  simp only [Bool.and_eq_true, decide_eq_true_eq] at h
  exact h.2.1
def vat (l : List S52) (j : Nat) : Bool := vok (rd_T52 l (j : Int)).f0 (rd_T52 l (j : Int)).f1 (rd_T52 l (j : Int)).f2 (rd_T52 l (j : Int)).f3 (rd_T52 l (j : Int)).f4
def step (l : List S52) (j : Nat) : Prop := (rd_T52 l (j : Int)).f2 < (rd_T52 l ((j + 1 : Nat) : Int)).f2 ∧ (rd_T52 l (j : Int)).f4 ≤ (rd_T52 l ((j + 1 : Nat) : Int)).f2
def VC (l : List S52) : Prop := (∀ j : Nat, j < l.length → vat l j = true) ∧ (∀ j : Nat, j + 1 < l.length → step l j) ∧ 0 < l.length ∧ (rd_T52 l ((l.length - 1 : Nat) : Int)).f4 = 1000
theorem chain_spec (l : List S52) (hl : l.length ≤ 1048576) : ∃ r, Ev (fun k => spec_IsValidChain.f k l) r ∧ (r = true ↔ VC l) := by
  refine ev_to (σ := Unit) (fun _ i k => spec_IsValidChain.l0 k l (i : Int)) l.length (fun _ i => (∀ j, j < i → vat l j = true) ∧ ∀ j, j < i → j + 1 < l.length → step l j) (fun r => r = true ↔ VC l) ?_ ?_ () 0 (Nat.zero_le _) ⟨fun j hj => absurd hj (by omega), fun j hj => absurd hj (by omega)⟩
  · rintro _ i hi ⟨hv, hs⟩ ih
    have h1 : (i : Int) < (l.length : Int) := by omega
    have e0 := wrap_up hi (by omega)
    have ev := (version_both (rd_T52 l (i : Int)).f0 (rd_T52 l (i : Int)).f1 (rd_T52 l (i : Int)).f2 (rd_T52 l (i : Int)).f3 (rd_T52 l (i : Int)).f4).1
    have hf : ∀ {P : Prop}, ¬ P → ((false = true) ↔ P) := fun h => ⟨fun h' => (nomatch h'), fun h' => absurd h' h⟩
    apply ex_succ
    simp only [spec_IsValidChain.l0]
    rw [e0]
    refine ex_ite (fun _ => ?_) (fun c => absurd h1 c)
    refine ex_ite (fun _ => ?_) (fun c => absurd (Int.natCast_nonneg i) c)
    refine ex_bindE ev ?_
    have hva : vat l i = vok (rd_T52 l (i : Int)).f0 (rd_T52 l (i : Int)).f1 (rd_T52 l (i : Int)).f2 (rd_T52 l (i : Int)).f3 (rd_T52 l (i : Int)).f4 := rfl
    refine ex_ite (fun c1 => ?_) (fun c1 => ex_now (hf (fun h => c1 (by rw [← hva]; exact h.1 i hi))))
    have hv' : ∀ j, j < i + 1 → vat l j = true := fun j hj => if hh : j < i then hv j hh else by obtain rfl : j = i := (by omega); rw [hva]; exact c1
    refine ex_ite (fun c2 => ?_) (fun c2 => ih () ⟨hv', fun j hj hjl => if hh : j < i then hs j hh hjl else by omega⟩)
    have c2' : i + 1 < l.length := by omega
    refine ex_ite (fun _ => ?_) (fun c => absurd (Int.natCast_nonneg _) c)
    refine ex_ite (fun c3 => ex_now (hf (fun h => by have := (h.2.1 i c2').1; omega))) (fun c3 => ?_)
    refine ex_ite (fun c4 => ex_now (hf (fun h => by have := (h.2.1 i c2').2; omega))) (fun c4 => ?_)
    exact ih () ⟨hv', fun j hj hjl => if hh : j < i then hs j hh hjl else by obtain rfl : j = i := (by omega); exact ⟨by omega, by omega⟩⟩
  · rintro _ ⟨hv, hs⟩
    have hf : ∀ {P : Prop}, ¬ P → ((false = true) ↔ P) := fun h => ⟨fun h' => (nomatch h'), fun h' => absurd h' h⟩
    apply ex_succ
    simp only [spec_IsValidChain.l0]
    refine ex_ite (fun c => absurd c (Int.lt_irrefl _)) (fun _ => ?_)
    refine ex_ite (fun c1 => ?_) (fun c1 => ex_now (hf (fun h => c1 (by have := h.2.2.1; omega))))
    have e1 : wrap64 ((l.length : Int) - 1) = ((l.length - 1 : Nat) : Int) := wrap_down (by omega) (by omega)
    rw [e1]
    refine ex_ite (fun _ => ?_) (fun c => absurd (Int.natCast_nonneg _) c)
    refine ex_ite (fun _ => ex_now ?_) (fun c => absurd (by omega) c)
    rw [beq_iff_eq]
    exact ⟨fun h => ⟨hv, fun j hj => hs j (by omega) hj, by omega, h⟩, fun h => h.2.2.2⟩
theorem chain_impl (l : List S52) (hl : l.length ≤ 1048576) : ∃ r, Ev (fun k => impl_IsValidChain.f k l) r ∧ (r = true ↔ VC l) := by
  refine ev_to (σ := Unit) (fun _ i k => impl_IsValidChain.l0 k l l (l.length : Int) (i : Int)) l.length (fun _ i => (∀ j, j < i → vat l j = true) ∧ ∀ j, j + 1 < i → step l j) (fun r => r = true ↔ VC l) ?_ ?_ () 0 (Nat.zero_le _) ⟨fun j hj => absurd hj (by omega), fun j hj => absurd hj (by omega)⟩
  · rintro _ i hi ⟨hv, hs⟩ ih
    have h1 : (i : Int) < (l.length : Int) := by omega
    have e0 := wrap_up hi (by omega)
    have ev := (version_both (rd_T52 l (i : Int)).f0 (rd_T52 l (i : Int)).f1 (rd_T52 l (i : Int)).f2 (rd_T52 l (i : Int)).f3 (rd_T52 l (i : Int)).f4).2
    have hf : ∀ {P : Prop}, ¬ P → ((false = true) ↔ P) := fun h => ⟨fun h' => (nomatch h'), fun h' => absurd h' h⟩
    have hva : vat l i = vok (rd_T52 l (i : Int)).f0 (rd_T52 l (i : Int)).f1 (rd_T52 l (i : Int)).f2 (rd_T52 l (i : Int)).f3 (rd_T52 l (i : Int)).f4 := rfl
    apply ex_succ
    simp only [impl_IsValidChain.l0]
    rw [e0]
    refine ex_ite (fun _ => ?_) (fun c => absurd h1 c)
    refine ex_ite (fun _ => ?_) (fun c => absurd (Int.natCast_nonneg i) c)
    refine ex_ite (fun _ => ?_) (fun c => absurd h1 c)
    refine ex_bindE ev ?_
    refine ex_ite (fun c1 => ?_) (fun c1 => ex_now (hf (fun h => c1 (by rw [← hva]; exact h.1 i hi))))
    have hv' : ∀ j, j < i + 1 → vat l j = true := fun j hj => if hh : j < i then hv j hh else by obtain rfl : j = i := (by omega); rw [hva]; exact c1
    refine ex_ite (fun c2 => ?_) (fun c2 => ih () ⟨hv', fun j hj => if hh : j + 1 < i then hs j hh else by omega⟩)
    have e1 : wrap64 ((i : Int) - 1) = ((i - 1 : Nat) : Int) := wrap_down (by omega) (by omega)
    rw [e1]
    refine ex_ite (fun _ => ?_) (fun c => absurd (Int.natCast_nonneg _) c)
    refine ex_ite (fun _ => ?_) (fun c => absurd (by omega) c)
    have hst : ∀ h : VC l, step l (i - 1) := fun h => h.2.1 (i - 1) (by omega)
    have hi1 : i - 1 + 1 = i := by omega
    refine ex_ite (fun c3 => ex_now (hf (fun h => by have := (hst h).1; rw [hi1] at this; omega))) (fun c3 => ?_)
    refine ex_ite (fun c4 => ex_now (hf (fun h => by have := (hst h).2; rw [hi1] at this; omega))) (fun c4 => ?_)
    exact ih () ⟨hv', fun j hj => if hh : j + 1 < i then hs j hh else by obtain rfl : j = i - 1 := (by omega); exact ⟨by rw [hi1]; omega, by rw [hi1]; omega⟩⟩
  · rintro _ ⟨hv, hs⟩
    have hf : ∀ {P : Prop}, ¬ P → ((false = true) ↔ P) := fun h => ⟨fun h' => (nomatch h'), fun h' => absurd h' h⟩
    apply ex_succ
    simp only [impl_IsValidChain.l0]
    refine ex_ite (fun c => absurd c (Int.lt_irrefl _)) (fun _ => ?_)
    refine ex_ite (fun c1 => ?_) (fun c1 => ex_now (hf (fun h => c1 (by have := h.2.2.1; omega))))
    have e1 : wrap64 ((l.length : Int) - 1) = ((l.length - 1 : Nat) : Int) := wrap_down (by omega) (by omega)
    rw [e1]
    refine ex_ite (fun _ => ?_) (fun c => absurd (Int.natCast_nonneg _) c)
    refine ex_ite (fun _ => ex_now ?_) (fun c => absurd (by omega) c)
    rw [beq_iff_eq]
    exact ⟨fun h => ⟨hv, fun j hj => hs j (by omega), by omega, h⟩, fun h => h.2.2.2⟩
theorem store_both (l : List (List S52)) (hl : l.length ≤ 1048576) (he : ∀ e ∈ l, e.length ≤ 1048576) : ∃ r, Ev (fun k => spec_IsValidStore.f k l) r ∧ Ev (fun k => impl_IsValidStore.f k l) r ∧ (r = true ↔ (∀ e ∈ l, VC e ∧ e.length ≤ 50) ∧ l.length = 6) := by
  have hf : ∀ {P : Prop}, ¬ P → ((false = true) ↔ P) := fun h => ⟨fun h' => (nomatch h'), fun h' => absurd h' h⟩
  have hS : ∃ r, Ev (fun k => spec_IsValidStore.f k l) r ∧ (r = true ↔ (∀ e ∈ l, VC e ∧ e.length ≤ 50) ∧ l.length = 6) := by
    refine ev_to (σ := Unit) (fun _ i k => spec_IsValidStore.l0 k (i : Int) l) l.length (fun _ i => ∀ j (hj : j < l.length), j < i → VC l[j] ∧ l[j].length ≤ 50) (fun r => r = true ↔ (∀ e ∈ l, VC e ∧ e.length ≤ 50) ∧ l.length = 6) ?_ ?_ () 0 (Nat.zero_le _) (fun j _ hj => absurd hj (by omega))
    · intro _ i hi hI ih
      have h1 : (i : Int) < (l.length : Int) := by omega
      have hrd : rd_L11 l (i : Int) = l[i] := by simp [rd_L11, hi]
      obtain ⟨r, er, hr⟩ := chain_spec l[i] (he _ (List.getElem_mem hi))
      apply ex_succ
      simp only [spec_IsValidStore.l0]
      rw [wrap_up hi (by omega), hrd]
      refine ex_ite (fun _ => ?_) (fun c => absurd h1 c)
      refine ex_ite (fun _ => ?_) (fun c => absurd (Int.natCast_nonneg i) c)
      refine ex_bindE er ?_
      refine ex_ite (fun c1 => ?_) (fun c1 => ex_now (hf (fun h => c1 (hr.2 (h.1 _ (List.getElem_mem hi)).1))))
      have hvc := hr.1 c1
      have hnext : l[i].length ≤ 50 → ∀ j (hj : j < l.length), j < i + 1 → VC l[j] ∧ l[j].length ≤ 50 := fun h50 j hj hji => if hh : j < i then hI j hj hh else by obtain rfl : j = i := (by omega); exact ⟨hvc, h50⟩
      have hbig : (l[i].length : Int) > 50 → ¬ ((∀ e ∈ l, VC e ∧ e.length ≤ 50) ∧ l.length = 6) := fun h h' => by have := (h'.1 _ (List.getElem_mem hi)).2; omega
      refine ex_ite (fun _ => ?_) (fun c => absurd (by have := hvc.2.2.1; omega) c)
      exact ex_ite (fun _ => ex_ite (fun c => ex_now (hf (hbig c))) (fun c => ih () (hnext (by omega)))) (fun _ => ex_ite (fun c => ex_now (hf (hbig c))) (fun c => ih () (hnext (by omega))))
    · intro _ hI
      apply ex_succ
      simp only [spec_IsValidStore.l0]
      refine ex_ite (fun c => absurd c (Int.lt_irrefl _)) (fun _ => ex_now ?_)
      rw [beq_iff_eq]
      refine ⟨fun h => ⟨fun e hm => ?_, by omega⟩, fun h => by omega⟩
      obtain ⟨j, hj, rfl⟩ := List.getElem_of_mem hm
      exact hI j hj hj
  have hI : ∃ r, Ev (fun k => impl_IsValidStore.f k l) r ∧ (r = true ↔ (∀ e ∈ l, VC e ∧ e.length ≤ 50) ∧ l.length = 6) := by
    unfold impl_IsValidStore.f
    refine ex_ite (fun c => ?_) (fun c => ex_now (hf (fun h => c (by omega))))
    have key : ∃ q, Ev (fun k => impl_Version_107.f k l) q ∧ ((decide (q ≥ 0) = false) ↔ (∀ e ∈ l, VC e ∧ e.length ≤ 50)) := by
      refine ev_to (σ := Unit) (fun _ i k => impl_Version_107.l0 k l (l.length : Int) (i : Int)) l.length (fun _ i => ∀ j (hj : j < l.length), j < i → VC l[j] ∧ l[j].length ≤ 50) (fun q => (decide (q ≥ 0) = false) ↔ (∀ e ∈ l, VC e ∧ e.length ≤ 50)) ?_ ?_ () 0 (Nat.zero_le _) (fun j _ hj => absurd hj (by omega))
      · intro _ i hi hI ih
        have h1 : (i : Int) < (l.length : Int) := by omega
        have hrd : rd_L11 l (i : Int) = l[i] := by simp [rd_L11, hi]
        obtain ⟨r, er, hr⟩ := chain_impl l[i] (he _ (List.getElem_mem hi))
        have e1 : ∃ t, Ev (fun k => impl_IsValidStore_1.f k l[i]) t ∧ (t = true ↔ ¬ (VC l[i] ∧ l[i].length ≤ 50)) := by
          unfold impl_IsValidStore_1.f
          refine ex_bindE er ?_
          refine ex_ite (fun c1 => ex_now ?_) (fun c1 => ex_now ⟨fun _ h => c1 (hr.2 h.1), fun _ => rfl⟩)
          rw [decide_eq_true_eq]
          exact ⟨fun h h' => by have := h'.2; omega, fun h => by
            by_cases q : l[i].length ≤ 50
            · exact absurd ⟨hr.1 c1, q⟩ h
            · omega⟩
        obtain ⟨t, et, htt⟩ := e1
        apply ex_succ
        simp only [impl_Version_107.l0]
        rw [wrap_up hi (by omega), hrd]
        refine ex_ite (fun _ => ?_) (fun c => absurd h1 c)
        refine ex_ite (fun _ => ?_) (fun c => absurd (Int.natCast_nonneg i) c)
        refine ex_ite (fun _ => ?_) (fun c => absurd h1 c)
        refine ex_bindE et ?_
        refine ex_ite (fun c1 => ex_now ?_) (fun c1 => ih () (fun j hj hji => if hh : j < i then hI j hj hh else by
          obtain rfl : j = i := by omega
          exact Classical.byContradiction (fun h => c1 (htt.2 h))))
        have hn := htt.1 c1
        have : decide ((i : Int) ≥ 0) = true := decide_eq_true (Int.natCast_nonneg i)
        rw [this]
        exact ⟨fun h => (nomatch h), fun h => absurd (h _ (List.getElem_mem hi)) hn⟩
      · intro _ hI
        apply ex_succ
        simp only [impl_Version_107.l0]
        refine ex_ite (fun c => absurd c (Int.lt_irrefl _)) (fun _ => ex_now ⟨fun _ e hm => ?_, fun _ => by decide⟩)
        obtain ⟨j, hj, rfl⟩ := List.getElem_of_mem hm
        exact hI j hj hj
    obtain ⟨q, eq, hq⟩ := key
    refine ex_bindE (a := decide (q ≥ 0)) (Ev.bind eq (Ev.now _)) (ex_now ?_)
    rw [Bool.not_eq_true']
    exact ⟨fun h => ⟨hq.1 h, by omega⟩, fun h => hq.2 h.1⟩
  obtain ⟨r, h1, h2⟩ := hS
  obtain ⟨r', h1', h2'⟩ := hI
  have : r = r' := by rw [Bool.eq_iff_iff]; exact h2.trans h2'.symm
  subst this
  exact ⟨r, h1, h1', h2⟩
theorem find_both (c : List S52) (n : Int) (hl : c.length ≤ 1048576) : ∃ r, Ev (fun k => spec_FindVersion.f k c n) r ∧ Ev (fun k => impl_FindVersion.f k c n) r ∧ (r = -1 ∨ (0 ≤ r ∧ r < (c.length : Int))) := by
  have h : ∃ r q, Ev (fun k => spec_FindVersion.l0 k c n ((0 : Nat) : Int)) r ∧ Ev (fun k => impl_Version_140.l0 k c (c.length : Int) ((0 : Nat) : Int) n) q ∧ (r = q ∧ (r = -1 ∨ (0 ≤ r ∧ r < (c.length : Int)))) := by
    refine ev_two (σ := Unit) (τ := Unit) (fun _ i k => spec_FindVersion.l0 k c n (i : Int)) (fun _ i k => impl_Version_140.l0 k c (c.length : Int) (i : Int) n) c.length (fun _ _ _ => True) (fun r q => r = q ∧ (r = -1 ∨ (0 ≤ r ∧ r < (c.length : Int)))) ?_ ?_ () () 0 (Nat.zero_le _) trivial
    · intro _ _ i hi _ ih
      have h1 : (i : Int) < (c.length : Int) := by omega
      have e0 := wrap_up hi (by omega)
      by_cases hc : (rd_T52 c i).f2 = n
      · refine ⟨(i : Int), (i : Int), Ev.succ ?_, Ev.succ ?_, rfl, .inr ⟨by omega, h1⟩⟩ <;> (simp only [spec_FindVersion.l0, impl_Version_140.l0, impl_FindVersion_1.f, h1, hc, beq_self_eq_true, Int.natCast_nonneg, if_true, Option.bind_some]; exact Ev.now _)
      · obtain ⟨r, q, hs, ht, hR⟩ := ih () () trivial
        have cb : ((rd_T52 c i).f2 == n) = false := by simpa using hc
        refine ⟨r, q, Ev.succ ?_, Ev.succ ?_, hR⟩ <;> (simp only [spec_FindVersion.l0, impl_Version_140.l0, impl_FindVersion_1.f, h1, hc, cb, e0, Int.natCast_nonneg, if_true, if_false, Option.bind_some, Bool.false_eq_true]; assumption)
    · intro _ _ _
      refine ⟨-1, -1, Ev.succ ?_, Ev.succ ?_, rfl, .inl rfl⟩ <;> (simp only [spec_FindVersion.l0, impl_Version_140.l0, Int.lt_irrefl, if_false]; exact Ev.now _)
  obtain ⟨r, q, h1, h2, rfl, hR⟩ := h
  refine ⟨r, h1, ?_, hR⟩
  unfold impl_FindVersion.f impl_Version_140.f
  exact Ev.bind h2 (Ev.now _)
theorem both_AreLocks (l : List S76) (hl : l.length ≤ 1048576) : ∃ r, Ev (fun k => spec_AreLocks.f k l) r ∧ Ev (fun k => impl_AreLocks.f k l) r ∧ True := by
  refine ev_both (σ := Unit) (τ := Unit) (fun _ i k => spec_AreLocks.l0 k l (i : Int)) (fun _ i k => impl_AreLocks.l0 k l l (l.length : Int) (i : Int)) l.length (fun _ _ _ => True) (fun _ => True) ?_ ?_ () () 0 (Nat.zero_le _) trivial
  · intro _ _ i hi _ ih
    have h1 : (i : Int) < (l.length : Int) := by omega
    obtain ⟨r, hs, ht, _⟩ := ih () () trivial
    have e0 := wrap_up hi (by omega)
    by_cases c0 : 0 ≤ (rd_T76 l i).f0 <;> by_cases c1 : (rd_T76 l i).f0 ≤ 5 <;> by_cases c2 : 1 ≤ (rd_T76 l i).f1 <;> by_cases c3 : (rd_T76 l i).f1 ≤ 9
    all_goals try (refine ⟨false, Ev.succ ?_, Ev.succ ?_, trivial⟩ <;> (simp [spec_AreLocks.l0, impl_AreLocks.l0, spec_l1In.f, impl_isKey.f, impl_isID.f, impl_in.f, h1, c0, c1, c2, c3]; first | done | exact Ev.now _))
    by_cases c5 : 0 < i
    · have e1 : wrap64 ((i : Int) - 1) = ((i - 1 : Nat) : Int) := wrap_down c5 (by omega)
      have h2 : ((i - 1 : Nat) : Int) < (l.length : Int) := by omega
      have h3 : (i : Int) > 0 := by omega
      by_cases c6 : (rd_T76 l ((i - 1 : Nat) : Int)).f0 ≥ (rd_T76 l i).f0
      · refine ⟨false, Ev.succ ?_, Ev.succ ?_, trivial⟩ <;> (simp only [spec_AreLocks.l0, impl_AreLocks.l0, spec_l1In.f, impl_isKey.f, impl_isID.f, impl_in.f, h1, h2, h3, c0, c1, c2, c3, c6, e1, Int.natCast_nonneg, ge_iff_le, decide_true, if_true, if_false, Option.bind_some]; exact Ev.now _)
      · refine ⟨r, Ev.succ ?_, Ev.succ ?_, trivial⟩ <;> (simp only [spec_AreLocks.l0, impl_AreLocks.l0, spec_l1In.f, impl_isKey.f, impl_isID.f, impl_in.f, h1, h2, h3, c0, c1, c2, c3, c6, e1, e0, Int.natCast_nonneg, ge_iff_le, decide_true, if_true, if_false, Option.bind_some]; assumption)
    · have h3 : ¬ ((i : Int) > 0) := by omega
      refine ⟨r, Ev.succ ?_, Ev.succ ?_, trivial⟩ <;> (simp only [spec_AreLocks.l0, impl_AreLocks.l0, spec_l1In.f, impl_isKey.f, impl_isID.f, impl_in.f, h1, h3, c0, c1, c2, c3, e0, Int.natCast_nonneg, ge_iff_le, decide_true, if_true, if_false, Option.bind_some]; assumption)
  · intro _ _ _
    refine ⟨true, Ev.succ ?_, Ev.succ ?_, trivial⟩ <;> (simp [spec_AreLocks.l0, impl_AreLocks.l0]; exact Ev.now _)
theorem both_AreWaits (l : List S78) (hl : l.length ≤ 1048576) : ∃ r, Ev (fun k => spec_AreWaits.f k l) r ∧ Ev (fun k => impl_AreWaits.f k l) r ∧ True := by
  refine ev_both (σ := Unit) (τ := Unit) (fun _ i k => spec_AreWaits.l0 k l (i : Int)) (fun _ i k => impl_AreWaits.l0 k l l (l.length : Int) (i : Int)) l.length (fun _ _ _ => True) (fun _ => True) ?_ ?_ () () 0 (Nat.zero_le _) trivial
  · intro _ _ i hi _ ih
    have h1 : (i : Int) < (l.length : Int) := by omega
    obtain ⟨r, hs, ht, _⟩ := ih () () trivial
    have e0 := wrap_up hi (by omega)
    by_cases c0 : 1 ≤ (rd_T78 l i).f0 <;> by_cases c1 : (rd_T78 l i).f0 ≤ 9 <;> by_cases c2 : 1 ≤ (rd_T78 l i).f1 <;> by_cases c3 : (rd_T78 l i).f1 ≤ 9 <;> by_cases c4 : (rd_T78 l i).f0 = (rd_T78 l i).f1
    all_goals try (refine ⟨false, Ev.succ ?_, Ev.succ ?_, trivial⟩ <;> (simp [spec_AreWaits.l0, impl_AreWaits.l0, spec_l1In.f, impl_isID.f, impl_in.f, h1, c0, c1, c2, c3, c4]; first | done | exact Ev.now _))
    by_cases c5 : 0 < i
    · have e1 : wrap64 ((i : Int) - 1) = ((i - 1 : Nat) : Int) := wrap_down c5 (by omega)
      have h2 : ((i - 1 : Nat) : Int) < (l.length : Int) := by omega
      have h3 : (i : Int) > 0 := by omega
      by_cases c6 : (rd_T78 l ((i - 1 : Nat) : Int)).f0 ≥ (rd_T78 l i).f0
      · refine ⟨false, Ev.succ ?_, Ev.succ ?_, trivial⟩ <;> (simp only [spec_AreWaits.l0, impl_AreWaits.l0, spec_l1In.f, impl_isID.f, impl_in.f, h1, h2, h3, c0, c1, c2, c3, c4, c6, e1, Int.natCast_nonneg, ge_iff_le, decide_true, if_true, if_false, Option.bind_some]; exact Ev.now _)
      · refine ⟨r, Ev.succ ?_, Ev.succ ?_, trivial⟩ <;> (simp only [spec_AreWaits.l0, impl_AreWaits.l0, spec_l1In.f, impl_isID.f, impl_in.f, h1, h2, h3, c0, c1, c2, c3, c4, c6, e1, e0, Int.natCast_nonneg, ge_iff_le, decide_true, if_true, if_false, Option.bind_some]; assumption)
    · have h3 : ¬ ((i : Int) > 0) := by omega
      refine ⟨r, Ev.succ ?_, Ev.succ ?_, trivial⟩ <;> (simp only [spec_AreWaits.l0, impl_AreWaits.l0, spec_l1In.f, impl_isID.f, impl_in.f, h1, h3, c0, c1, c2, c3, c4, e0, Int.natCast_nonneg, ge_iff_le, decide_true, if_true, if_false, Option.bind_some]; assumption)
  · intro _ _ _
    refine ⟨true, Ev.succ ?_, Ev.succ ?_, trivial⟩ <;> (simp [spec_AreWaits.l0, impl_AreWaits.l0]; exact Ev.now _)
theorem vok_reader {a0 a1 a2 a3 a4 : Int} (h : vok a0 a1 a2 a3 a4 = true) : a2 ≤ a3 := by
  unfold vok at h
  simp only [Bool.and_eq_true, decide_eq_true_eq] at h
  exact h.2.2.1.1
theorem last_both (l : List (List S52)) (hW : ∀ e ∈ l, VC e ∧ e.length ≤ 50) (h6 : l.length = 6) (hv : Ev (fun k => spec_IsValidStore.f k l) true) : ∃ n, Ev (fun k => spec_LastStamp.f k l) n ∧ Ev (fun k => impl_Store_lastStamp.f k l) n ∧ True := by
  have inner : ∀ (i : Nat) (hi : i < l.length), (∀ n, ∃ r, Ev (fun k => spec_LastStamp.l0 k n ((i + 1 : Nat) : Int) l) r ∧ Ev (fun k => impl_Store_lastStamp.l0 k n l (l.length : Int) ((i + 1 : Nat) : Int)) r ∧ True) → ∀ n, ∃ r, Ev (fun k => spec_LastStamp.l1 k n (i : Int) ((0 : Nat) : Int) l) r ∧ Ev (fun k => impl_Store_lastStamp.l1 k n l (l.length : Int) (i : Int) l[i] (l[i].length : Int) ((0 : Nat) : Int)) r ∧ True := by
    intro i hi hn n
    have h1 : (i : Int) < (l.length : Int) := by omega
    have hrd : rd_L11 l (i : Int) = l[i] := by simp [rd_L11, hi]
    obtain ⟨hvc, h50⟩ := hW _ (List.getElem_mem hi)
    refine ev_both (σ := Int) (τ := Int) (fun n j k => spec_LastStamp.l1 k n (i : Int) (j : Int) l) (fun n j k => impl_Store_lastStamp.l1 k n l (l.length : Int) (i : Int) l[i] (l[i].length : Int) (j : Int)) l[i].length (fun s t _ => s = t) (fun _ => True) ?_ ?_ n n 0 (Nat.zero_le _) rfl
    · rintro s _ j hj rfl ih
      have h2 : (j : Int) < (l[i].length : Int) := by omega
      have e0 := wrap_up hj (by omega)
      have hs : (rd_T52 l[i] (j : Int)).f2 ≤ (rd_T52 l[i] (j : Int)).f3 := vok_reader (hvc.1 j hj)
      have hm : mx (mx s (rd_T52 l[i] (j : Int)).f2) (rd_T52 l[i] (j : Int)).f3 = mx s (rd_T52 l[i] (j : Int)).f3 := by
        unfold mx
        repeat' split
        all_goals omega
      obtain ⟨r, g, g', _⟩ := ih _ (mx s (rd_T52 l[i] (j : Int)).f3) rfl
      refine ⟨r, Ev.succ ?_, Ev.succ ?_, trivial⟩
      · simp only [spec_LastStamp.l1, Int.natCast_nonneg, h1, hrd, h2, if_true, e0, hm]; exact g
      · simp only [impl_Store_lastStamp.l1, h2, Int.natCast_nonneg, if_true, e0]; exact g'
    · rintro s _ rfl
      obtain ⟨r, g, g', _⟩ := hn s
      refine ⟨r, Ev.succ ?_, Ev.succ ?_, trivial⟩
      · simp only [spec_LastStamp.l1, Int.natCast_nonneg, h1, hrd, Int.lt_irrefl, if_true, if_false, wrap_up hi (by omega)]; exact g
      · simp only [impl_Store_lastStamp.l1, Int.lt_irrefl, if_false, wrap_up hi (by omega)]; exact g'
  refine ev_both (σ := Int) (τ := Int) (fun n i k => spec_LastStamp.l0 k n (i : Int) l) (fun n i k => impl_Store_lastStamp.l0 k n l (l.length : Int) (i : Int)) l.length (fun s t _ => s = t) (fun _ => True) ?_ ?_ 0 0 0 (Nat.zero_le _) rfl
  · rintro s _ i hi rfl ih
    have h1 : (i : Int) < (l.length : Int) := by omega
    have hrd : rd_L11 l (i : Int) = l[i] := by simp [rd_L11, hi]
    obtain ⟨r, g, g', _⟩ := inner i hi (fun n => ih n n rfl) s
    refine ⟨r, Ev.succ ?_, Ev.succ ?_, trivial⟩
    · simp only [spec_LastStamp.l0, h1, if_true]
      refine Ev.bind hv (Ev.succ ?_)
      simp only [spec_LastStamp.j1, if_true]; exact g
    · simp only [impl_Store_lastStamp.l0, h1, Int.natCast_nonneg, if_true, hrd]; exact g'
  · rintro s _ rfl
    refine ⟨s, Ev.succ ?_, Ev.succ ?_, trivial⟩
    · simp only [spec_LastStamp.l0, Int.lt_irrefl, if_false]
      exact Ev.succ (by simp only [spec_LastStamp.j1, Bool.false_eq_true, if_false]; exact Ev.now _)
    · simp only [impl_Store_lastStamp.l0, Int.lt_irrefl, if_false]; exact Ev.now _
theorem exist_both (l : List (List S52)) (a0 a1 a2 a3 a4 a5 a6 : Int) (rs : List S116) (ws : List S103) (hW : ∀ e ∈ l, VC e ∧ e.length ≤ 50) (h6 : l.length = 6) (hr : rs.length ≤ 1048576) (hk : ∀ j : Nat, j < rs.length → 0 ≤ (rd_T116 rs (j : Int)).f0 ∧ (rd_T116 rs (j : Int)).f0 ≤ 5) : ∃ r, Ev (fun k => spec_ReadsExist.l0 k ((0 : Nat) : Int) l a0 a1 a2 a3 a4 a5 a6 rs ws) r ∧ Ev (fun k => impl_Store_readsExist.f k l rs) r := by
  have h : ∃ r q, Ev (fun k => spec_ReadsExist.l0 k ((0 : Nat) : Int) l a0 a1 a2 a3 a4 a5 a6 rs ws) r ∧ Ev (fun k => impl_ReadMark_132.l0 k rs (rs.length : Int) ((0 : Nat) : Int) l) q ∧ r = !decide (q ≥ 0) := by
    refine ev_two (σ := Unit) (τ := Unit) (fun _ i k => spec_ReadsExist.l0 k (i : Int) l a0 a1 a2 a3 a4 a5 a6 rs ws) (fun _ i k => impl_ReadMark_132.l0 k rs (rs.length : Int) (i : Int) l) rs.length (fun _ _ _ => True) (fun r q => r = !decide (q ≥ 0)) ?_ ?_ () () 0 (Nat.zero_le _) trivial
    · intro _ _ i hi _ ih
      have h1 : (i : Int) < (rs.length : Int) := by omega
      have e0 := wrap_up hi (by omega)
      obtain ⟨g0, g5⟩ := hk i hi
      obtain ⟨q, hq⟩ := Int.eq_ofNat_of_zero_le g0
      have hql : q < l.length := by omega
      have h2 : (q : Int) < (l.length : Int) := by omega
      have hrd : rd_L11 l (q : Int) = l[q] := by simp [rd_L11, hql]
      obtain ⟨_, h50⟩ := hW _ (List.getElem_mem hql)
      obtain ⟨t, es, ei, ht⟩ := find_both l[q] (rd_T116 rs (i : Int)).f1 (by omega)
      have hf : Ev (fun k => impl_Store_find.f k l (rd_T116 rs (i : Int)).f0 (rd_T116 rs (i : Int)).f1) t := by
        unfold impl_Store_find.f
        simp only [hq, h2, hrd, Int.natCast_nonneg, if_true]
        refine Ev.bind ei ?_
        by_cases c : t < 0
        · obtain rfl : t = -1 := by omega
          simp only [c, if_true]; exact Ev.now _
        · have c0 : 0 ≤ t := by omega
          have c1 : t < (l[q].length : Int) := by omega
          simp only [c, c0, c1, if_true, if_false]; exact Ev.now _
      have fx : Ev (fun k => impl_Store_readsExist_1.f k (rd_T116 rs (i : Int)).f0 (rd_T116 rs (i : Int)).f1 l) (decide (t < 0)) := by
        unfold impl_Store_readsExist_1.f
        exact Ev.bind hf (Ev.now _)
      by_cases c : t < 0
      · refine ⟨false, (i : Int), Ev.succ ?_, Ev.succ ?_, by simp⟩
        · simp only [spec_ReadsExist.l0, h1, Int.natCast_nonneg, hq, h2, hrd, if_true]
          refine Ev.bind es ?_
          simp only [c, if_true]; exact Ev.now _
        · simp only [impl_ReadMark_132.l0, h1, Int.natCast_nonneg, if_true]
          refine Ev.bind fx ?_
          simp only [decide_eq_true c, if_true]; exact Ev.now _
      · obtain ⟨r, p, hs, hp, hR⟩ := ih () () trivial
        refine ⟨r, p, Ev.succ ?_, Ev.succ ?_, hR⟩
        · simp only [spec_ReadsExist.l0, h1, Int.natCast_nonneg, hq, h2, hrd, if_true]
          refine Ev.bind es ?_
          simp only [c, if_false, e0]; exact hs
        · simp only [impl_ReadMark_132.l0, h1, Int.natCast_nonneg, if_true]
          refine Ev.bind fx ?_
          simp only [decide_eq_false c, Bool.false_eq_true, if_false, e0]; exact hp
    · intro _ _ _
      refine ⟨true, -1, Ev.succ ?_, Ev.succ ?_, by decide⟩ <;> (simp only [spec_ReadsExist.l0, impl_ReadMark_132.l0, Int.lt_irrefl, if_false]; exact Ev.now _)
  obtain ⟨r, q, h1, h2, rfl⟩ := h
  refine ⟨_, h1, ?_⟩
  unfold impl_Store_readsExist.f
  refine Ev.bind (a := decide (q ≥ 0)) ?_ (Ev.now _)
  unfold impl_ReadMark_113.f impl_ReadMark_132.f
  exact Ev.bind h2 (Ev.now _)
theorem findt_both (c : Bool) (vs : List (List S52)) (l : List S48) (ls : List S76) (ws : List S78) (st a : Int) (hl : l.length ≤ 1048576) : ∃ r, Ev (fun k => spec_FindTransaction.f k c vs l ls ws st a) r ∧ Ev (fun k => impl_FindTransaction.f k c vs l ls ws st a) r ∧ (r = -1 ∨ (0 ≤ r ∧ r < (l.length : Int))) := by
  have h : ∃ r, Ev (fun k => spec_FindTransaction.l0 k a ((0 : Nat) : Int) c vs l ls ws st) r ∧ Ev (fun k => impl_Transaction.l0 k l (l.length : Int) ((0 : Nat) : Int) a) r ∧ (r = -1 ∨ (0 ≤ r ∧ r < (l.length : Int))) := by
    refine ev_both (σ := Unit) (τ := Unit) (fun _ i k => spec_FindTransaction.l0 k a (i : Int) c vs l ls ws st) (fun _ i k => impl_Transaction.l0 k l (l.length : Int) (i : Int) a) l.length (fun _ _ _ => True) (fun r => (r = -1 ∨ (0 ≤ r ∧ r < (l.length : Int)))) ?_ ?_ () () 0 (Nat.zero_le _) trivial
    · intro _ _ i hi _ ih
      have h1 : (i : Int) < (l.length : Int) := by omega
      have e0 := wrap_up hi (by omega)
      by_cases c : (rd_T48 l i).f0 = a
      · refine ⟨(i : Int), Ev.succ ?_, Ev.succ ?_, .inr ⟨by omega, h1⟩⟩ <;> (simp only [spec_FindTransaction.l0, impl_Transaction.l0, impl_FindTransaction_1.f, h1, c, beq_self_eq_true, Int.natCast_nonneg, if_true, Option.bind_some]; exact Ev.now _)
      · obtain ⟨r, hs, ht, hR⟩ := ih () () trivial
        have cb : ((rd_T48 l i).f0 == a) = false := by simpa using c
        refine ⟨r, Ev.succ ?_, Ev.succ ?_, hR⟩ <;> (simp only [spec_FindTransaction.l0, impl_Transaction.l0, impl_FindTransaction_1.f, h1, c, cb, e0, Int.natCast_nonneg, if_true, if_false, Option.bind_some, Bool.false_eq_true]; assumption)
    · intro _ _ _
      refine ⟨-1, Ev.succ ?_, Ev.succ ?_, .inl rfl⟩ <;> (simp only [spec_FindTransaction.l0, impl_Transaction.l0, Int.lt_irrefl, if_false]; exact Ev.now _)
  obtain ⟨r, h1, h2, hR⟩ := h
  refine ⟨r, h1, ?_, hR⟩
  unfold impl_FindTransaction.f impl_Transaction.f
  exact Ev.bind h2 (Ev.now _)
theorem active_both (c : Bool) (vs : List (List S52)) (l : List S48) (ls : List S76) (ws : List S78) (st a : Int) (hl : l.length ≤ 1048576) : ∃ b, Ev (fun k => spec_l13Active.f k c vs l ls ws st a) b ∧ Ev (fun k => impl_Engine_isActive.f k c vs l ls ws st a) b := by
  obtain ⟨r, h1, h2, hR⟩ := findt_both c vs l ls ws st a hl
  by_cases h : r ≥ 0
  · have h0 : 0 ≤ r := h
    have h3 : r < (l.length : Int) := by omega
    refine ⟨((rd_T48 l r).f2 == 1), ?_, ?_⟩
    · unfold spec_l13Active.f
      refine Ev.bind h1 ?_
      simp only [h, h0, h3, if_true]; exact Ev.now _
    · unfold impl_Engine_isActive.f
      refine Ev.bind h2 ?_
      simp only [h, h0, h3, if_true]; exact Ev.now _
  · refine ⟨false, ?_, ?_⟩
    · unfold spec_l13Active.f
      refine Ev.bind h1 ?_
      simp only [h, if_false]; exact Ev.now _
    · unfold impl_Engine_isActive.f
      refine Ev.bind h2 ?_
      simp only [h, if_false]; exact Ev.now _
theorem locks_loop (c : Bool) (vs : List (List S52)) (l : List S48) (ls : List S76) (ws : List S78) (st : Int) (hl : l.length ≤ 1048576) (hls : ls.length ≤ 1048576) (r : Bool) (hr : Ev (fun k => spec_IsValidEngine.l2 k 0 c vs l ls ws st) r) : ∃ x q, Ev (fun k => spec_IsValidEngine.l1 k ((0 : Nat) : Int) c vs l ls ws st) x ∧ Ev (fun k => impl_Lock_80.l0 k ls (ls.length : Int) ((0 : Nat) : Int) c vs l ls ws st) q ∧ x = (!decide (q ≥ 0) && r) := by
  refine ev_two (σ := Unit) (τ := Unit) (fun _ i k => spec_IsValidEngine.l1 k (i : Int) c vs l ls ws st) (fun _ i k => impl_Lock_80.l0 k ls (ls.length : Int) (i : Int) c vs l ls ws st) ls.length (fun _ _ _ => True) (fun x q => x = (!decide (q ≥ 0) && r)) ?_ ?_ () () 0 (Nat.zero_le _) trivial
  · intro _ _ i hi _ ih
    have h1 : (i : Int) < (ls.length : Int) := by omega
    have e0 := wrap_up hi (by omega)
    obtain ⟨b, hs, hi'⟩ := active_both c vs l ls ws st (rd_T76 ls (i : Int)).f1 hl
    have fx : Ev (fun k => impl_IsValidEngine_1.f k (rd_T76 ls (i : Int)).f0 (rd_T76 ls (i : Int)).f1 c vs l ls ws st) (!b) := by
      unfold impl_IsValidEngine_1.f
      exact Ev.bind hi' (Ev.now _)
    cases b
    · refine ⟨false, (i : Int), Ev.succ ?_, Ev.succ ?_, by simp⟩
      · simp only [spec_IsValidEngine.l1, h1, Int.natCast_nonneg, if_true]
        refine Ev.bind hs ?_
        simp only [Bool.false_eq_true, if_false]; exact Ev.now _
      · simp only [impl_Lock_80.l0, h1, Int.natCast_nonneg, if_true]
        refine Ev.bind fx ?_
        simp only [Bool.not_false, if_true]; exact Ev.now _
    · obtain ⟨x, q, gs, gi, hR⟩ := ih () () trivial
      refine ⟨x, q, Ev.succ ?_, Ev.succ ?_, hR⟩
      · simp only [spec_IsValidEngine.l1, h1, Int.natCast_nonneg, if_true, e0]
        refine Ev.bind hs ?_
        simp only [if_true]; exact gs
      · simp only [impl_Lock_80.l0, h1, Int.natCast_nonneg, if_true, e0]
        refine Ev.bind fx ?_
        simp only [Bool.not_true, Bool.false_eq_true, if_false]; exact gi
  · intro _ _ _
    refine ⟨r, -1, Ev.succ ?_, Ev.succ ?_, by simp⟩
    · simp only [spec_IsValidEngine.l1, Int.lt_irrefl, if_false]; exact hr
    · simp only [impl_Lock_80.l0, Int.lt_irrefl, if_false]; exact Ev.now _
theorem waits_loop (c : Bool) (vs : List (List S52)) (l : List S48) (ls : List S76) (ws : List S78) (st : Int) (hl : l.length ≤ 1048576) (hws : ws.length ≤ 1048576) : ∃ x q, Ev (fun k => spec_IsValidEngine.l2 k ((0 : Nat) : Int) c vs l ls ws st) x ∧ Ev (fun k => impl_Wait_82.l0 k ws (ws.length : Int) ((0 : Nat) : Int) c vs l ls ws st) q ∧ x = !decide (q ≥ 0) := by
  refine ev_two (σ := Unit) (τ := Unit) (fun _ i k => spec_IsValidEngine.l2 k (i : Int) c vs l ls ws st) (fun _ i k => impl_Wait_82.l0 k ws (ws.length : Int) (i : Int) c vs l ls ws st) ws.length (fun _ _ _ => True) (fun x q => x = !decide (q ≥ 0)) ?_ ?_ () () 0 (Nat.zero_le _) trivial
  · intro _ _ i hi _ ih
    have h1 : (i : Int) < (ws.length : Int) := by omega
    have e0 := wrap_up hi (by omega)
    obtain ⟨b, hs, hi'⟩ := active_both c vs l ls ws st (rd_T78 ws (i : Int)).f0 hl
    obtain ⟨d, hs2, hi2⟩ := active_both c vs l ls ws st (rd_T78 ws (i : Int)).f1 hl
    have fx : Ev (fun k => impl_IsValidEngine_2.f k (rd_T78 ws (i : Int)).f0 (rd_T78 ws (i : Int)).f1 c vs l ls ws st) (!(b && d)) := by
      unfold impl_IsValidEngine_2.f
      refine Ev.bind hi' ?_
      cases b
      · simp only [Bool.false_eq_true, if_false]; exact Ev.now _
      · simp only [if_true, Bool.true_and]; exact Ev.bind hi2 (Ev.now _)
    by_cases hb : (b && d) = true
    · obtain ⟨x, q, gs, gi, hR⟩ := ih () () trivial
      have hb' := hb
      simp only [Bool.and_eq_true] at hb'
      obtain ⟨rfl, rfl⟩ := hb'
      refine ⟨x, q, Ev.succ ?_, Ev.succ ?_, hR⟩
      · simp only [spec_IsValidEngine.l2, h1, Int.natCast_nonneg, if_true, e0]
        refine Ev.bind hs ?_
        simp only [if_true]
        refine Ev.bind hs2 ?_
        simp only [if_true]; exact gs
      · simp only [impl_Wait_82.l0, h1, Int.natCast_nonneg, if_true, e0]
        refine Ev.bind fx ?_
        simp only [Bool.and_self, Bool.not_true, Bool.false_eq_true, if_false]; exact gi
    · have hb' : (b && d) = false := by simpa using hb
      refine ⟨false, (i : Int), Ev.succ ?_, Ev.succ ?_, by simp⟩
      · simp only [spec_IsValidEngine.l2, h1, Int.natCast_nonneg, if_true]
        refine Ev.bind hs ?_
        cases b
        · simp only [Bool.false_eq_true, if_false]; exact Ev.now _
        · obtain rfl : d = false := by simpa using hb'
          simp only [if_true]
          refine Ev.bind hs2 ?_
          simp only [Bool.false_eq_true, if_false]; exact Ev.now _
      · simp only [impl_Wait_82.l0, h1, Int.natCast_nonneg, if_true]
        refine Ev.bind fx ?_
        simp only [hb', Bool.not_false, if_true]; exact Ev.now _
  · intro _ _ _
    refine ⟨true, -1, Ev.succ ?_, Ev.succ ?_, by decide⟩ <;> (simp only [spec_IsValidEngine.l2, impl_Wait_82.l0, Int.lt_irrefl, if_false]; exact Ev.now _)
theorem trans_loop (c : Bool) (vs : List (List S52)) (l : List S48) (ls : List S76) (ws : List S78) (st : Int) (hv : Ev (fun k => spec_IsValidStore.f k vs) true) (hW : ∀ e ∈ vs, VC e ∧ e.length ≤ 50) (h6 : vs.length = 6) (hl : l.length ≤ 1048576) (he : ∀ e ∈ l, e.f7.length ≤ 1048576 ∧ e.f8.length ≤ 1048576) (r : Bool) (hr : Ev (fun k => spec_IsValidEngine.l1 k 0 c vs l ls ws st) r) :
    ∃ x b, Ev (fun k => spec_IsValidEngine.l0 k ((0 : Nat) : Int) c vs l ls ws st) x ∧ Ev (fun k => impl_Engine_areTransactions.l0 k l (l.length : Int) ((0 : Nat) : Int) c vs l ls ws st) b ∧ ∃ t : Bool, x = (t && r) ∧ b = (t && decide ((l.length : Int) ≤ 6)) := by
  refine ev_two (σ := Unit) (τ := Unit) (fun _ i k => spec_IsValidEngine.l0 k (i : Int) c vs l ls ws st) (fun _ i k => impl_Engine_areTransactions.l0 k l (l.length : Int) (i : Int) c vs l ls ws st) l.length (fun _ _ _ => True) (fun x b => ∃ t : Bool, x = (t && r) ∧ b = (t && decide ((l.length : Int) ≤ 6))) ?_ ?_ () () 0 (Nat.zero_le _) trivial
  · intro _ _ i hi _ ih
    have h1 : (i : Int) < (l.length : Int) := by omega
    have e0 := wrap_up hi (by omega)
    have hrd : (rd_T48 l (i : Int)) = l[i] := by simp [rd_T48, hi]
    obtain ⟨h7, h8⟩ := he _ (List.getElem_mem hi)
    obtain ⟨b, sv, iv, hb⟩ := both_IsValidTransaction5 (rd_T48 l (i : Int)).f0 (rd_T48 l (i : Int)).f1 (rd_T48 l (i : Int)).f2 (rd_T48 l (i : Int)).f3 (rd_T48 l (i : Int)).f4 (rd_T48 l (i : Int)).f5 (rd_T48 l (i : Int)).f6 (rd_T48 l (i : Int)).f7 (rd_T48 l (i : Int)).f8 (by rw [hrd]; exact h7) (by rw [hrd]; exact h8)
    have jT : Ev (fun k => impl_Engine_areTransactions.j1 k (i : Int) l (l.length : Int) true c vs l ls ws st (rd_T48 l (i : Int)).f0 (rd_T48 l (i : Int)).f1 (rd_T48 l (i : Int)).f2 (rd_T48 l (i : Int)).f3 (rd_T48 l (i : Int)).f4 (rd_T48 l (i : Int)).f5 (rd_T48 l (i : Int)).f6 (rd_T48 l (i : Int)).f7 (rd_T48 l (i : Int)).f8) false := Ev.succ (by simp only [impl_Engine_areTransactions.j1, if_true]; exact Ev.now _)
    cases b
    · refine ⟨false, false, Ev.succ ?_, Ev.succ ?_, false, rfl, rfl⟩
      · simp only [spec_IsValidEngine.l0, h1, Int.natCast_nonneg, if_true]
        refine Ev.bind sv ?_
        simp only [Bool.false_eq_true, if_false]; exact Ev.now _
      · simp only [impl_Engine_areTransactions.l0, h1, Int.natCast_nonneg, if_true]
        refine Ev.bind iv ?_
        simp only [Bool.false_eq_true, if_false]; exact jT
    obtain ⟨_, hkeys⟩ := hb rfl
    obtain ⟨x', y', gs, gi, t', hx', hy'⟩ := ih () () trivial
    have tail : ∃ x y, Ev (fun k => if (rd_T48 l (i : Int)).f3 > st then some false else if (rd_T48 l (i : Int)).f6 > st then some false else if (rd_T48 l (i : Int)).f2 = 1 then ((spec_ReadsExist.f k vs (rd_T48 l (i : Int)).f0 (rd_T48 l (i : Int)).f1 (rd_T48 l (i : Int)).f2 (rd_T48 l (i : Int)).f3 (rd_T48 l (i : Int)).f4 (rd_T48 l (i : Int)).f5 (rd_T48 l (i : Int)).f6 (rd_T48 l (i : Int)).f7 (rd_T48 l (i : Int)).f8).bind fun t => if t = true then spec_IsValidEngine.l0 k (wrap64 ((i : Int) + 1)) c vs l ls ws st else some false) else spec_IsValidEngine.l0 k (wrap64 ((i : Int) + 1)) c vs l ls ws st) x ∧ Ev (fun k => if (rd_T48 l (i : Int)).f3 > st then impl_Engine_areTransactions.j1 k (i : Int) l (l.length : Int) true c vs l ls ws st (rd_T48 l (i : Int)).f0 (rd_T48 l (i : Int)).f1 (rd_T48 l (i : Int)).f2 (rd_T48 l (i : Int)).f3 (rd_T48 l (i : Int)).f4 (rd_T48 l (i : Int)).f5 (rd_T48 l (i : Int)).f6 (rd_T48 l (i : Int)).f7 (rd_T48 l (i : Int)).f8 else impl_Engine_areTransactions.j1 k (i : Int) l (l.length : Int) (decide ((rd_T48 l (i : Int)).f6 > st)) c vs l ls ws st (rd_T48 l (i : Int)).f0 (rd_T48 l (i : Int)).f1 (rd_T48 l (i : Int)).f2 (rd_T48 l (i : Int)).f3 (rd_T48 l (i : Int)).f4 (rd_T48 l (i : Int)).f5 (rd_T48 l (i : Int)).f6 (rd_T48 l (i : Int)).f7 (rd_T48 l (i : Int)).f8) y ∧ ∃ t : Bool, x = (t && r) ∧ y = (t && decide ((l.length : Int) ≤ 6)) := by
      by_cases c3 : (rd_T48 l (i : Int)).f3 > st
      · refine ⟨false, false, ?_, ?_, false, rfl, rfl⟩
        · simp only [if_pos c3]; exact Ev.now _
        · simp only [if_pos c3]; exact jT
      by_cases c6 : (rd_T48 l (i : Int)).f6 > st
      · refine ⟨false, false, ?_, ?_, false, rfl, rfl⟩
        · simp only [if_neg c3, if_pos c6]; exact Ev.now _
        · simp only [if_neg c3, decide_eq_true c6]; exact jT
      by_cases c2 : (rd_T48 l (i : Int)).f2 = 1
      · obtain ⟨e, es, ei⟩ := exist_both vs (rd_T48 l (i : Int)).f0 (rd_T48 l (i : Int)).f1 (rd_T48 l (i : Int)).f2 (rd_T48 l (i : Int)).f3 (rd_T48 l (i : Int)).f4 (rd_T48 l (i : Int)).f5 (rd_T48 l (i : Int)).f6 (rd_T48 l (i : Int)).f7 (rd_T48 l (i : Int)).f8 hW h6 (by rw [hrd]; exact h7) hkeys
        have hre : Ev (fun k => spec_ReadsExist.f k vs (rd_T48 l (i : Int)).f0 (rd_T48 l (i : Int)).f1 (rd_T48 l (i : Int)).f2 (rd_T48 l (i : Int)).f3 (rd_T48 l (i : Int)).f4 (rd_T48 l (i : Int)).f5 (rd_T48 l (i : Int)).f6 (rd_T48 l (i : Int)).f7 (rd_T48 l (i : Int)).f8) e := by
          unfold spec_ReadsExist.f
          refine Ev.bind hv ?_
          simp only [if_true]
          refine Ev.bind sv ?_
          exact Ev.succ (by simp only [spec_ReadsExist.j0, Bool.not_true, Bool.false_eq_true, if_false]; exact es)
        cases e
        · refine ⟨false, false, ?_, ?_, false, rfl, rfl⟩
          · simp only [if_neg c3, if_neg c6, if_pos c2]
            refine Ev.bind hre ?_
            simp only [Bool.false_eq_true, if_false]; exact Ev.now _
          · simp only [if_neg c3, decide_eq_false c6]
            apply Ev.succ
            simp only [impl_Engine_areTransactions.j1, Bool.false_eq_true, if_false, if_pos c2]
            refine Ev.bind ei ?_
            simp only [Bool.false_eq_true, if_false]; exact Ev.now _
        · refine ⟨x', y', ?_, ?_, t', hx', hy'⟩
          · simp only [if_neg c3, if_neg c6, if_pos c2]
            refine Ev.bind hre ?_
            simp only [if_true, e0]; exact gs
          · simp only [if_neg c3, decide_eq_false c6]
            apply Ev.succ
            simp only [impl_Engine_areTransactions.j1, Bool.false_eq_true, if_false, if_pos c2]
            refine Ev.bind ei ?_
            simp only [if_true, e0]; exact gi
      · refine ⟨x', y', ?_, ?_, t', hx', hy'⟩
        · simp only [if_neg c3, if_neg c6, if_neg c2, e0]; exact gs
        · simp only [if_neg c3, decide_eq_false c6]
          apply Ev.succ
          simp only [impl_Engine_areTransactions.j1, Bool.false_eq_true, if_false, if_neg c2, e0]; exact gi
    obtain ⟨x, y, ts, ti, t, hx, hy⟩ := tail
    by_cases h0 : 0 < i
    · have e1 : wrap64 ((i : Int) - 1) = ((i - 1 : Nat) : Int) := wrap_down h0 (by omega)
      have h2 : ((i - 1 : Nat) : Int) < (l.length : Int) := by omega
      have h3 : (i : Int) > 0 := by omega
      by_cases ho : (rd_T48 l ((i - 1 : Nat) : Int)).f0 ≥ (rd_T48 l (i : Int)).f0
      · refine ⟨false, false, Ev.succ ?_, Ev.succ ?_, false, rfl, rfl⟩
        · simp only [spec_IsValidEngine.l0, h1, h2, h3, e1, if_pos ho, Int.natCast_nonneg, if_true]
          refine Ev.bind sv ?_
          simp only [if_true]; exact Ev.now _
        · simp only [impl_Engine_areTransactions.l0, h1, h2, h3, e1, if_pos ho, Int.natCast_nonneg, if_true]
          refine Ev.bind iv ?_
          simp only [if_true]; exact jT
      · refine ⟨x, y, Ev.succ ?_, Ev.succ ?_, t, hx, hy⟩
        · simp only [spec_IsValidEngine.l0, h1, h2, h3, e1, if_neg ho, Int.natCast_nonneg, if_true]
          refine Ev.bind sv ?_
          simp only [if_true]; exact ts
        · simp only [impl_Engine_areTransactions.l0, h1, h2, h3, e1, if_neg ho, Int.natCast_nonneg, if_true]
          refine Ev.bind iv ?_
          simp only [if_true]; exact ti
    · have h3 : ¬ ((i : Int) > 0) := by omega
      refine ⟨x, y, Ev.succ ?_, Ev.succ ?_, t, hx, hy⟩
      · simp only [spec_IsValidEngine.l0, h1, h3, Int.natCast_nonneg, if_true, if_false]
        refine Ev.bind sv ?_
        simp only [if_true]; exact ts
      · simp only [impl_Engine_areTransactions.l0, h1, h3, Int.natCast_nonneg, if_true, if_false]
        refine Ev.bind iv ?_
        simp only [if_true]; exact ti
  · intro _ _ _
    refine ⟨r, decide ((l.length : Int) ≤ 6), Ev.succ ?_, Ev.succ ?_, true, by simp, by simp⟩
    · simp only [spec_IsValidEngine.l0, Int.lt_irrefl, if_false]; exact hr
    · simp only [impl_Engine_areTransactions.l0, Int.lt_irrefl, if_false]; exact Ev.now _
theorem both_IsValidEngine (c : Bool) (vs : List (List S52)) (l : List S48) (ls : List S76) (ws : List S78) (st : Int) (hvs : vs.length ≤ 1048576 ∧ ∀ e ∈ vs, e.length ≤ 1048576) (hl : l.length ≤ 1048576) (he : ∀ e ∈ l, e.f7.length ≤ 1048576 ∧ e.f8.length ≤ 1048576) (hls : ls.length ≤ 1048576) (hws : ws.length ≤ 1048576) : ∃ r, Ev (fun k => spec_IsValidEngine.f k c vs l ls ws st) r ∧ Ev (fun k => impl_IsValidEngine.f k c vs l ls ws st) r := by
  obtain ⟨v, s1, i1, hv⟩ := store_both vs hvs.1 hvs.2
  obtain ⟨a, s2, i2, _⟩ := both_AreLocks ls hls
  obtain ⟨w, s3, i3, _⟩ := both_AreWaits ws hws
  have jT : Ev (fun k => spec_IsValidEngine.j0 k true c vs l ls ws st) false := Ev.succ (by simp only [spec_IsValidEngine.j0, if_true]; exact Ev.now _)
  cases v
  · refine ⟨false, ?_, ?_⟩
    · unfold spec_IsValidEngine.f; refine Ev.bind s1 ?_; simp only [Bool.false_eq_true, if_false]; exact jT
    · unfold impl_IsValidEngine.f; refine Ev.bind i1 ?_; simp only [Bool.false_eq_true, if_false]; exact Ev.now _
  cases a
  · refine ⟨false, ?_, ?_⟩
    · unfold spec_IsValidEngine.f; refine Ev.bind s1 ?_; simp only [if_true]; refine Ev.bind s2 ?_; simp only [Bool.false_eq_true, if_false]; exact jT
    · unfold impl_IsValidEngine.f; refine Ev.bind i1 ?_; simp only [if_true]; refine Ev.bind i2 ?_; simp only [Bool.false_eq_true, if_false]; exact Ev.now _
  cases w
  · refine ⟨false, ?_, ?_⟩
    · unfold spec_IsValidEngine.f; refine Ev.bind s1 ?_; simp only [if_true]; refine Ev.bind s2 ?_; simp only [if_true]; refine Ev.bind s3 ?_; simp only [Bool.false_eq_true, if_false]; exact jT
    · unfold impl_IsValidEngine.f; refine Ev.bind i1 ?_; simp only [if_true]; refine Ev.bind i2 ?_; simp only [if_true]; refine Ev.bind i3 ?_; simp only [Bool.false_eq_true, if_false]; exact Ev.now _
  obtain ⟨hW, h6⟩ := hv.1 rfl
  obtain ⟨n, s4, i4, _⟩ := last_both vs hW h6 s1
  by_cases cs : (decide (n ≤ st) && decide (st ≤ 999)) = true
  rotate_left 1
  · have cs' : (decide (n ≤ st) && decide (st ≤ 999)) = false := by simpa using cs
    refine ⟨false, ?_, ?_⟩
    · unfold spec_IsValidEngine.f; refine Ev.bind s1 ?_; simp only [if_true]; refine Ev.bind s2 ?_; simp only [if_true]; refine Ev.bind s3 ?_; simp only [if_true]; refine Ev.bind s4 ?_
      simp only [l1In_eq, cs', Option.bind_some, Bool.false_eq_true, if_false]; exact jT
    · unfold impl_IsValidEngine.f; refine Ev.bind i1 ?_; simp only [if_true]; refine Ev.bind i2 ?_; simp only [if_true]; refine Ev.bind i3 ?_; simp only [if_true]; refine Ev.bind i4 ?_
      simp only [in_eq, cs', Option.bind_some, Bool.false_eq_true, if_false]; exact Ev.now _
  have hS : ∀ r, Ev (fun k => spec_IsValidEngine.j0 k (decide ((l.length : Int) > 6)) c vs l ls ws st) r → Ev (fun k => spec_IsValidEngine.f k c vs l ls ws st) r := by
    intro r h
    unfold spec_IsValidEngine.f; refine Ev.bind s1 ?_; simp only [if_true]; refine Ev.bind s2 ?_; simp only [if_true]; refine Ev.bind s3 ?_; simp only [if_true]; refine Ev.bind s4 ?_
    simp only [l1In_eq, cs, Option.bind_some, if_true]; exact h
  obtain ⟨wx, wq, ws1, wi1, hw⟩ := waits_loop c vs l ls ws st hl hws
  obtain ⟨lx, lq, ls1, li1, hlx⟩ := locks_loop c vs l ls ws st hl hls wx ws1
  obtain ⟨tx, tb, ts1, ti1, t, htx, htb⟩ := trans_loop c vs l ls ws st s1 hW h6 hl he lx ls1
  have hI : ∀ r, Ev (fun k => if tb = true then ((impl_Lock_44.f k ls c vs l ls ws st).bind fun t431 => (if t431 = true then (some false) else ((impl_Wait_47.f k ws c vs l ls ws st).bind fun t432 => (some (!t432))))) else (some false)) r → Ev (fun k => impl_IsValidEngine.f k c vs l ls ws st) r := by
    intro r h
    unfold impl_IsValidEngine.f; refine Ev.bind i1 ?_; simp only [if_true]; refine Ev.bind i2 ?_; simp only [if_true]; refine Ev.bind i3 ?_; simp only [if_true]; refine Ev.bind i4 ?_
    simp only [in_eq, cs, Option.bind_some, if_true]
    exact Ev.bind (show Ev (fun k => impl_Engine_areTransactions.f k c vs l ls ws st) tb from ti1) h
  have hcl : Ev (fun k => impl_Lock_44.f k ls c vs l ls ws st) (decide (lq ≥ 0)) := by
    unfold impl_Lock_44.f impl_Lock_80.f
    exact Ev.bind li1 (Ev.now _)
  have hcw : Ev (fun k => impl_Wait_47.f k ws c vs l ls ws st) (decide (wq ≥ 0)) := by
    unfold impl_Wait_47.f impl_Wait_82.f
    exact Ev.bind wi1 (Ev.now _)
  by_cases c6 : (l.length : Int) > 6
  · have h6' : decide ((l.length : Int) ≤ 6) = false := decide_eq_false (by omega)
    rw [h6', Bool.and_false] at htb
    subst htb
    refine ⟨false, hS _ ?_, hI _ ?_⟩
    · simp only [decide_eq_true c6]; exact jT
    · simp only [Bool.false_eq_true, if_false]; exact Ev.now _
  have h6' : decide ((l.length : Int) ≤ 6) = true := decide_eq_true (by omega)
  rw [h6', Bool.and_true] at htb
  subst htb
  refine ⟨tx, hS _ ?_, hI _ ?_⟩
  · simp only [decide_eq_false c6]
    exact Ev.succ (by simp only [spec_IsValidEngine.j0, Bool.false_eq_true, if_false]; exact ts1)
  subst htx hlx hw
  cases tb
  · simp only [Bool.false_eq_true, if_false, Bool.false_and]; exact Ev.now _
  · simp only [if_true, Bool.true_and]
    refine Ev.bind hcl ?_
    by_cases g : lq ≥ 0
    · simp only [decide_eq_true g, if_true, Bool.not_true, Bool.false_and]; exact Ev.now _
    · simp only [decide_eq_false g, Bool.false_eq_true, if_false, Bool.not_false, Bool.true_and]
      exact Ev.bind hcw (Ev.now _)
theorem sz_en (c : Bool) (vs : List (List S171)) (l : List S114) (ls : List S123) (ws : List S125) (st : Int) (b : Int) (hb0 : 0 ≤ b) (hb1 : b ≤ 1048576) (hv : vs.length ≤ 9223372036854775807 ∧ ∀ e ∈ vs, e.length ≤ 9223372036854775807) (hl : l.length ≤ 9223372036854775807 ∧ ∀ e ∈ l, lim_Transaction e) (hls : ls.length ≤ 9223372036854775807) (hws : ws.length ≤ 9223372036854775807) : ∃ r, Ev (fun k => laws_szEngine.f k c vs l ls ws st b) r ∧ r ≤ b ∧ (0 ≤ r → (vs.length ≤ 1048576 ∧ ∀ e ∈ vs, e.length ≤ 1048576) ∧ (l.length ≤ 1048576 ∧ ∀ e ∈ l, fit_Transaction e) ∧ ls.length ≤ 1048576 ∧ ws.length ≤ 1048576) := by
  unfold laws_szEngine.f laws_szStore.f
  obtain ⟨r0, e0, u0, f0⟩ := sz_VersionSS vs b (by omega) (by omega) hv.1 hv.2
  by_cases c0 : r0 < 0
  · refine ⟨-1, Ev.bind (a := -1) (Ev.bind e0 (by simp only [c0, if_true]; exact Ev.now _)) (by simp only [show (-1 : Int) < 0 from by decide, if_true]; exact Ev.now _), by omega, fun h => absurd h (by omega)⟩
  have b0 : Ev (fun k => (laws_szVersionSS.f k vs b).bind fun t104 => if t104 < 0 then some (-1) else some t104) r0 := Ev.bind e0 (by simp only [c0, if_false]; exact Ev.now _)
  obtain ⟨r1, e1, u1, f1⟩ := sz_TransactionS l r0 (by omega) (by omega) hl.1 hl.2
  by_cases c1 : r1 < 0
  · exact ⟨-1, Ev.bind b0 (by simp only [c0, if_false]; exact Ev.bind e1 (by simp only [c1, if_true]; exact Ev.now _)), by omega, fun h => absurd h (by omega)⟩
  obtain ⟨r2, e2, u2, f2⟩ := szx_Lock ls r1 (by omega) (by omega) hls
  by_cases c2 : r2 < 0
  · exact ⟨-1, Ev.bind b0 (by simp only [c0, if_false]; exact Ev.bind e1 (by simp only [c1, if_false]; exact Ev.bind e2 (by simp only [c2, if_true]; exact Ev.now _))), by omega, fun h => absurd h (by omega)⟩
  obtain ⟨r3, e3, u3, f3⟩ := szx_Wait ws r2 (by omega) (by omega) hws
  by_cases c3 : r3 < 0
  · exact ⟨-1, Ev.bind b0 (by simp only [c0, if_false]; exact Ev.bind e1 (by simp only [c1, if_false]; exact Ev.bind e2 (by simp only [c2, if_false]; exact Ev.bind e3 (by simp only [c3, if_true]; exact Ev.now _)))), by omega, fun h => absurd h (by omega)⟩
  exact ⟨r3, Ev.bind b0 (by simp only [c0, if_false]; exact Ev.bind e1 (by simp only [c1, if_false]; exact Ev.bind e2 (by simp only [c2, if_false]; exact Ev.bind e3 (by simp only [c3, if_false]; exact Ev.now _)))), by omega, fun _ => ⟨f0 (by omega), f1 (by omega), f2 (by omega), f3 (by omega)⟩⟩
theorem to_en (c : Bool) (vs : List (List S171)) (l : List S114) (ls : List S123) (ws : List S125) (st : Int) (hvl : vs.length ≤ 1048576 ∧ ∀ e ∈ vs, e.length ≤ 1048576) (htl : l.length ≤ 1048576 ∧ ∀ e ∈ l, fit_Transaction e) (hll : ls.length ≤ 1048576) (hwl : ws.length ≤ 1048576) : Ev (fun k => laws_toEngine.f k c vs l ls ws st) (c, vs.map (List.map cvVersion), l.map cvTransaction, ls.map cvLock, ws.map cvWait, st) := by
  unfold laws_toEngine.f laws_toStore.f
  exact Ev.bind (Ev.bind (ev_toVersionSS vs hvl) (Ev.now _)) (Ev.bind (ev_toTransactionS l htl) (Ev.bind (ev_toLockS ls hll) (Ev.bind (ev_toWaitS ws hwl) (Ev.now _))))
theorem eq_en (c : Bool) (vs : List (List S171)) (l : List S114) (ls : List S123) (ws : List S125) (st : Int) (hvl : vs.length ≤ 1048576 ∧ ∀ e ∈ vs, e.length ≤ 1048576) (htl : l.length ≤ 1048576 ∧ ∀ e ∈ l, fit_Transaction e) (hll : ls.length ≤ 1048576) (hwl : ws.length ≤ 1048576) : Ev (fun k => laws_eqEngine.f k c (vs.map (List.map cvVersion)) (l.map cvTransaction) (ls.map cvLock) (ws.map cvWait) st c (vs.map (List.map cvVersion)) (l.map cvTransaction) (ls.map cvLock) (ws.map cvWait) st) true := by
  unfold laws_eqEngine.f laws_eqStore.f
  simp only [bne_self_eq_false, Bool.false_eq_true, if_false, if_true]
  refine Ev.bind (a := true) (Ev.bind (ev_eqVersionSS _ ⟨by simpa using hvl.1, fun e he => ?_⟩) (by simp only [if_true]; exact Ev.now _)) ?_
  · obtain ⟨x, hx, rfl⟩ := List.mem_map.mp he
    simpa using hvl.2 x hx
  simp only [if_true]
  exact Ev.bind (ev_eqTransactionS _ (fitds_cvTransaction l htl)) (by simp only [if_true]; exact Ev.bind (ev_eqLockS _ (by simp; omega)) (by simp only [if_true]; exact Ev.bind (ev_eqWaitS _ (by simp; omega)) (by simp only [if_true]; exact Ev.now _)))
theorem tx_lim {l : List S114} (hl : (okRow PFnExactIsValidEngine.g114) l) : l.length ≤ 9223372036854775807 ∧ ∀ e ∈ l, lim_Transaction e := ⟨by have := hl.1; simp only [maxLen] at this; omega, fun x hx => by
  have h := (hl.2 x hx).2.2.2.2.2.2.2; have := h.1.1; have := h.2.1; simp only [maxLen] at *; unfold lim_Transaction; omega⟩
theorem st_lim {vs : List (List S171)} (hv : (okRow (okRow PFnExactIsValidEngine.g171)) vs) : vs.length ≤ 9223372036854775807 ∧ ∀ e ∈ vs, e.length ≤ 9223372036854775807 := ⟨by have := hv.1; simp only [maxLen] at this; omega, fun x hx => by have := (hv.2 x hx).1; simp only [maxLen] at this; omega⟩
theorem FnExactIsValidEngine : ∀ (x0_0 : Bool) (x0_1_0 : List (List (S171))) (x0_2 : List (S114)) (x0_3 : List (S123)) (x0_4 : List (S125)) (x0_5 : Int), okBool x0_0 → (okRow (okRow PFnExactIsValidEngine.g171)) x0_1_0 → (okRow PFnExactIsValidEngine.g114) x0_2 → (okRow PFnExactIsValidEngine.g123) x0_3 → (okRow PFnExactIsValidEngine.g125) x0_4 → (okInt .i64) x0_5 → ∃ k, laws_FnExactIsValidEngine.f k x0_0 x0_1_0 x0_2 x0_3 x0_4 x0_5 = some true := by
  intro c vs l ls ws st _ hv hl hls hws _
  apply Ev.rounds
  unfold laws_FnExactIsValidEngine.f
  obtain ⟨r, e, hr, hf⟩ := sz_en c vs l ls ws st 1048576 (by omega) (by omega) (st_lim hv) (tx_lim hl) (by have := hls.1; simp only [maxLen] at this; omega) (by have := hws.1; simp only [maxLen] at this; omega)
  refine Ev.bind e ?_
  by_cases h : r < 0
  · simp only [h, if_true]; exact Ev.now _
  obtain ⟨h1, h2, h3, h4⟩ := hf (by omega)
  simp only [h, if_false]
  have ta := to_en c vs l ls ws st h1 h2 h3 h4
  obtain ⟨v, s1, i1⟩ := both_IsValidEngine c (vs.map (List.map cvVersion)) (l.map cvTransaction) (ls.map cvLock) (ws.map cvWait) st ⟨by simpa using h1.1, fun e he => by
    obtain ⟨x, hx, rfl⟩ := List.mem_map.mp he
    simpa using h1.2 x hx⟩ (by simpa using h2.1) (fun e he => by
    have := (fitds_cvTransaction l h2).2 e he
    unfold fitd_Transaction at this; omega) (by simpa using h3) (by simpa using h4)
  refine Ev.bind ta (Ev.bind s1 (Ev.bind ta (Ev.bind i1 ?_)))
  simp only [bne_self_eq_false, Bool.false_eq_true, if_false]
  refine Ev.bind ta (Ev.bind (eq_en c vs l ls ws st h1 h2 h3 h4) ?_)
  simp only [if_true]; exact Ev.now _

end Go.Proofs.Ytdgknikgfjhohaa.Pure
