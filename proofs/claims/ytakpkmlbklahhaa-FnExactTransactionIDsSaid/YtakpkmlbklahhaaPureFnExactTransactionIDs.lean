/- The plain statement of FnExactTransactionIDs: both functions hand back the same IDs, the engine is as it was, and marks in the result are held. Condition: the rows' lengths are at most maxLen. -/
import Derived.Test.YtakpkmlbklahhaaGoodFnExactTransactionIDs
import Derived.Test.YtakpkmlbklahhaaPlainX
namespace Go.Proofs.Ytakpkmlbklahhaa.Pure
open Go.RowKit Go.Proofs.Ytakpkmlbklahhaa.PFnExactTransactionIDs Go.Proofs.YtakpkmlbklahhaaW.PrintWords Go.Proofs.YtakpkmlbklahhaaW.PrintLast Go.Proofs.Ytakpkmlbklahhaa.OpenK Go.Proofs.Ytakpkmlbklahhaa.Plain
set_option linter.unusedVariables false
set_option linter.unusedSimpArgs false

theorem sz_LockS (l : List S160) (a : Int) (h0 : 0 ≤ a) (h1 : a ≤ 1048576) (hl : l.length ≤ 9223372036854775807) : laws_szLockS.f l a = some (if a < l.length then -1 else a - l.length) := by
  unfold laws_szLockS.f
  rw [wrap_in (by omega) (by omega)]
  by_cases h : a < l.length
  · rw [if_pos (by omega), if_pos h]
  · rw [if_neg (by omega), if_neg h]

theorem szx_Lock (l : List S160) (a : Int) (h0 : 0 ≤ a) (h1 : a ≤ 1048576) (hl : l.length ≤ 9223372036854775807) : ∃ r, Ev (fun _ => laws_szLockS.f l a) r ∧ r ≤ a ∧ (0 ≤ r → l.length ≤ 1048576) := by
  rw [sz_LockS l a h0 h1 hl]
  refine ⟨_, Ev.now _, ?_, ?_⟩ <;> split <;> omega

theorem sz_ReadMarkS (l : List S189) (a : Int) (h0 : 0 ≤ a) (h1 : a ≤ 1048576) (hl : l.length ≤ 9223372036854775807) : laws_szReadMarkS.f l a = some (if a < l.length then -1 else a - l.length) := by
  unfold laws_szReadMarkS.f
  rw [wrap_in (by omega) (by omega)]
  by_cases h : a < l.length
  · rw [if_pos (by omega), if_pos h]
  · rw [if_neg (by omega), if_neg h]

theorem szx_ReadMark (l : List S189) (a : Int) (h0 : 0 ≤ a) (h1 : a ≤ 1048576) (hl : l.length ≤ 9223372036854775807) : ∃ r, Ev (fun _ => laws_szReadMarkS.f l a) r ∧ r ≤ a ∧ (0 ≤ r → l.length ≤ 1048576) := by
  rw [sz_ReadMarkS l a h0 h1 hl]
  refine ⟨_, Ev.now _, ?_, ?_⟩ <;> split <;> omega

theorem sz_VersionS (l : List S207) (a : Int) (h0 : 0 ≤ a) (h1 : a ≤ 1048576) (hl : l.length ≤ 9223372036854775807) : laws_szVersionS.f l a = some (if a < l.length then -1 else a - l.length) := by
  unfold laws_szVersionS.f
  rw [wrap_in (by omega) (by omega)]
  by_cases h : a < l.length
  · rw [if_pos (by omega), if_pos h]
  · rw [if_neg (by omega), if_neg h]

theorem szx_Version (l : List S207) (a : Int) (h0 : 0 ≤ a) (h1 : a ≤ 1048576) (hl : l.length ≤ 9223372036854775807) : ∃ r, Ev (fun _ => laws_szVersionS.f l a) r ∧ r ≤ a ∧ (0 ≤ r → l.length ≤ 1048576) := by
  rw [sz_VersionS l a h0 h1 hl]
  refine ⟨_, Ev.now _, ?_, ?_⟩ <;> split <;> omega

theorem sz_WaitS (l : List S183) (a : Int) (h0 : 0 ≤ a) (h1 : a ≤ 1048576) (hl : l.length ≤ 9223372036854775807) : laws_szWaitS.f l a = some (if a < l.length then -1 else a - l.length) := by
  unfold laws_szWaitS.f
  rw [wrap_in (by omega) (by omega)]
  by_cases h : a < l.length
  · rw [if_pos (by omega), if_pos h]
  · rw [if_neg (by omega), if_neg h]

theorem szx_Wait (l : List S183) (a : Int) (h0 : 0 ≤ a) (h1 : a ≤ 1048576) (hl : l.length ≤ 9223372036854775807) : ∃ r, Ev (fun _ => laws_szWaitS.f l a) r ∧ r ≤ a ∧ (0 ≤ r → l.length ≤ 1048576) := by
  rw [sz_WaitS l a h0 h1 hl]
  refine ⟨_, Ev.now _, ?_, ?_⟩ <;> split <;> omega

theorem sz_WriteS (l : List S191) (a : Int) (h0 : 0 ≤ a) (h1 : a ≤ 1048576) (hl : l.length ≤ 9223372036854775807) : laws_szWriteS.f l a = some (if a < l.length then -1 else a - l.length) := by
  unfold laws_szWriteS.f
  rw [wrap_in (by omega) (by omega)]
  by_cases h : a < l.length
  · rw [if_pos (by omega), if_pos h]
  · rw [if_neg (by omega), if_neg h]

theorem szx_Write (l : List S191) (a : Int) (h0 : 0 ≤ a) (h1 : a ≤ 1048576) (hl : l.length ≤ 9223372036854775807) : ∃ r, Ev (fun _ => laws_szWriteS.f l a) r ∧ r ≤ a ∧ (0 ≤ r → l.length ≤ 1048576) := by
  rw [sz_WriteS l a h0 h1 hl]
  refine ⟨_, Ev.now _, ?_, ?_⟩ <;> split <;> omega

def cvLock (x : S160) : S150 := ⟨x.f0, x.f1⟩
theorem ev_toLockS (l : List S160) (hl : l.length ≤ 1048576) : Ev (fun k => laws_toLockS.f k l) (l.map cvLock) := by
  have h : Ev (fun k => laws_toLockS.l0 k l (List.replicate l.length z150) ((0 : Nat) : Int)) (l.map cvLock) := by
    refine ev_up (σ := List S150) (fun ys i k => laws_toLockS.l0 k l ys (i : Int)) l.length (fun ys i => Filled (l.map cvLock) ys i) (fun _ _ => l.map cvLock) ?_ ?_ (List.replicate l.length z150) 0 (Nat.zero_le _) (Filled.start _ _ (by simp))
    · intro ys i hi hI ih
      apply Ev.succ
      have h1 : (i : Int) < (l.length : Int) := by omega
      have h2 : (i : Int) < (ys.length : Int) := by have := hI.1; simp at this; omega
      simp only [laws_toLockS.l0, laws_toLock.f, Option.bind_some, h1, h2, Int.natCast_nonneg, if_true, Int.toNat_natCast, wrap_up hi (by omega)]
      exact ih _ (hI.step (by simpa using hi) (by simp [cvLock, rd_T160, hi]))
    · intro ys hI
      apply Ev.succ
      simp only [laws_toLockS.l0, Int.lt_irrefl, if_false]
      exact Ev.some (Filled.done (by simpa using hI))
  unfold laws_toLockS.f
  have h3 : ((l.length : Int) : Int).toNat ≤ 17592186044416 := by omega
  simp only [Int.natCast_nonneg, if_true, h3]
  simpa using h

def cvReadMark (x : S189) : S165 := ⟨x.f0, x.f1⟩
theorem ev_toReadMarkS (l : List S189) (hl : l.length ≤ 1048576) : Ev (fun k => laws_toReadMarkS.f k l) (l.map cvReadMark) := by
  have h : Ev (fun k => laws_toReadMarkS.l0 k l (List.replicate l.length z165) ((0 : Nat) : Int)) (l.map cvReadMark) := by
    refine ev_up (σ := List S165) (fun ys i k => laws_toReadMarkS.l0 k l ys (i : Int)) l.length (fun ys i => Filled (l.map cvReadMark) ys i) (fun _ _ => l.map cvReadMark) ?_ ?_ (List.replicate l.length z165) 0 (Nat.zero_le _) (Filled.start _ _ (by simp))
    · intro ys i hi hI ih
      apply Ev.succ
      have h1 : (i : Int) < (l.length : Int) := by omega
      have h2 : (i : Int) < (ys.length : Int) := by have := hI.1; simp at this; omega
      simp only [laws_toReadMarkS.l0, laws_toReadMark.f, Option.bind_some, h1, h2, Int.natCast_nonneg, if_true, Int.toNat_natCast, wrap_up hi (by omega)]
      exact ih _ (hI.step (by simpa using hi) (by simp [cvReadMark, rd_T189, hi]))
    · intro ys hI
      apply Ev.succ
      simp only [laws_toReadMarkS.l0, Int.lt_irrefl, if_false]
      exact Ev.some (Filled.done (by simpa using hI))
  unfold laws_toReadMarkS.f
  have h3 : ((l.length : Int) : Int).toNat ≤ 17592186044416 := by omega
  simp only [Int.natCast_nonneg, if_true, h3]
  simpa using h

def cvVersion (x : S207) : S76 := ⟨x.f0, x.f1, x.f2, x.f3, x.f4⟩
theorem ev_toVersionS (l : List S207) (hl : l.length ≤ 1048576) : Ev (fun k => laws_toVersionS.f k l) (l.map cvVersion) := by
  have h : Ev (fun k => laws_toVersionS.l0 k l (List.replicate l.length z76) ((0 : Nat) : Int)) (l.map cvVersion) := by
    refine ev_up (σ := List S76) (fun ys i k => laws_toVersionS.l0 k l ys (i : Int)) l.length (fun ys i => Filled (l.map cvVersion) ys i) (fun _ _ => l.map cvVersion) ?_ ?_ (List.replicate l.length z76) 0 (Nat.zero_le _) (Filled.start _ _ (by simp))
    · intro ys i hi hI ih
      apply Ev.succ
      have h1 : (i : Int) < (l.length : Int) := by omega
      have h2 : (i : Int) < (ys.length : Int) := by have := hI.1; simp at this; omega
      simp only [laws_toVersionS.l0, laws_toVersion.f, Option.bind_some, h1, h2, Int.natCast_nonneg, if_true, Int.toNat_natCast, wrap_up hi (by omega)]
      exact ih _ (hI.step (by simpa using hi) (by simp [cvVersion, rd_T207, hi]))
    · intro ys hI
      apply Ev.succ
      simp only [laws_toVersionS.l0, Int.lt_irrefl, if_false]
      exact Ev.some (Filled.done (by simpa using hI))
  unfold laws_toVersionS.f
  have h3 : ((l.length : Int) : Int).toNat ≤ 7036874417766 := by omega
  simp only [Int.natCast_nonneg, if_true, h3]
  simpa using h

def cvWait (x : S183) : S36 := ⟨x.f0, x.f1⟩
theorem ev_toWaitS (l : List S183) (hl : l.length ≤ 1048576) : Ev (fun k => laws_toWaitS.f k l) (l.map cvWait) := by
  have h : Ev (fun k => laws_toWaitS.l0 k l (List.replicate l.length z36) ((0 : Nat) : Int)) (l.map cvWait) := by
    refine ev_up (σ := List S36) (fun ys i k => laws_toWaitS.l0 k l ys (i : Int)) l.length (fun ys i => Filled (l.map cvWait) ys i) (fun _ _ => l.map cvWait) ?_ ?_ (List.replicate l.length z36) 0 (Nat.zero_le _) (Filled.start _ _ (by simp))
    · intro ys i hi hI ih
      apply Ev.succ
      have h1 : (i : Int) < (l.length : Int) := by omega
      have h2 : (i : Int) < (ys.length : Int) := by have := hI.1; simp at this; omega
      simp only [laws_toWaitS.l0, laws_toWait.f, Option.bind_some, h1, h2, Int.natCast_nonneg, if_true, Int.toNat_natCast, wrap_up hi (by omega)]
      exact ih _ (hI.step (by simpa using hi) (by simp [cvWait, rd_T183, hi]))
    · intro ys hI
      apply Ev.succ
      simp only [laws_toWaitS.l0, Int.lt_irrefl, if_false]
      exact Ev.some (Filled.done (by simpa using hI))
  unfold laws_toWaitS.f
  have h3 : ((l.length : Int) : Int).toNat ≤ 17592186044416 := by omega
  simp only [Int.natCast_nonneg, if_true, h3]
  simpa using h

def cvWrite (x : S191) : S133 := ⟨x.f0, x.f1⟩
theorem ev_toWriteS (l : List S191) (hl : l.length ≤ 1048576) : Ev (fun k => laws_toWriteS.f k l) (l.map cvWrite) := by
  have h : Ev (fun k => laws_toWriteS.l0 k l (List.replicate l.length z133) ((0 : Nat) : Int)) (l.map cvWrite) := by
    refine ev_up (σ := List S133) (fun ys i k => laws_toWriteS.l0 k l ys (i : Int)) l.length (fun ys i => Filled (l.map cvWrite) ys i) (fun _ _ => l.map cvWrite) ?_ ?_ (List.replicate l.length z133) 0 (Nat.zero_le _) (Filled.start _ _ (by simp))
    · intro ys i hi hI ih
      apply Ev.succ
      have h1 : (i : Int) < (l.length : Int) := by omega
      have h2 : (i : Int) < (ys.length : Int) := by have := hI.1; simp at this; omega
      simp only [laws_toWriteS.l0, laws_toWrite.f, Option.bind_some, h1, h2, Int.natCast_nonneg, if_true, Int.toNat_natCast, wrap_up hi (by omega)]
      exact ih _ (hI.step (by simpa using hi) (by simp [cvWrite, rd_T191, hi]))
    · intro ys hI
      apply Ev.succ
      simp only [laws_toWriteS.l0, Int.lt_irrefl, if_false]
      exact Ev.some (Filled.done (by simpa using hI))
  unfold laws_toWriteS.f
  have h3 : ((l.length : Int) : Int).toNat ≤ 17592186044416 := by omega
  simp only [Int.natCast_nonneg, if_true, h3]
  simpa using h

theorem ev_eqIntS (l : List Int) (hl : l.length ≤ 9223372036854775807) : Ev (fun k => laws_eqIntS.f k l l) true := by
  have h : Ev (fun k => laws_eqIntS.l0 k l l ((0 : Nat) : Int)) true := by
    refine ev_up (σ := Unit) (fun _ i k => laws_eqIntS.l0 k l l (i : Int)) l.length (fun _ _ => True) (fun _ _ => true) ?_ ?_ () 0 (Nat.zero_le _) trivial
    · intro ys i hi hI ih
      apply Ev.succ
      have h1 : (i : Int) < (l.length : Int) := by omega
      simp only [laws_eqIntS.l0, Option.bind_some, h1, Int.natCast_nonneg, if_true, wrap_up hi hl]
      exact ih () trivial
    · intro ys hI
      apply Ev.succ
      simp only [laws_eqIntS.l0, Int.lt_irrefl, if_false]
      exact Ev.now _
  unfold laws_eqIntS.f
  simp only [if_true]
  exact h

theorem ev_eqLockS (l : List S150) (hl : l.length ≤ 9223372036854775807) : Ev (fun k => laws_eqLockS.f k l l) true := by
  have h : Ev (fun k => laws_eqLockS.l0 k l l ((0 : Nat) : Int)) true := by
    refine ev_up (σ := Unit) (fun _ i k => laws_eqLockS.l0 k l l (i : Int)) l.length (fun _ _ => True) (fun _ _ => true) ?_ ?_ () 0 (Nat.zero_le _) trivial
    · intro ys i hi hI ih
      apply Ev.succ
      have h1 : (i : Int) < (l.length : Int) := by omega
      simp only [laws_eqLockS.l0, laws_eqLock.f, Option.bind_some, h1, Int.natCast_nonneg, if_true, wrap_up hi hl]
      exact ih () trivial
    · intro ys hI
      apply Ev.succ
      simp only [laws_eqLockS.l0, Int.lt_irrefl, if_false]
      exact Ev.now _
  unfold laws_eqLockS.f
  simp only [if_true]
  exact h

theorem ev_eqReadMarkS (l : List S165) (hl : l.length ≤ 9223372036854775807) : Ev (fun k => laws_eqReadMarkS.f k l l) true := by
  have h : Ev (fun k => laws_eqReadMarkS.l0 k l l ((0 : Nat) : Int)) true := by
    refine ev_up (σ := Unit) (fun _ i k => laws_eqReadMarkS.l0 k l l (i : Int)) l.length (fun _ _ => True) (fun _ _ => true) ?_ ?_ () 0 (Nat.zero_le _) trivial
    · intro ys i hi hI ih
      apply Ev.succ
      have h1 : (i : Int) < (l.length : Int) := by omega
      simp only [laws_eqReadMarkS.l0, laws_eqReadMark.f, Option.bind_some, h1, Int.natCast_nonneg, if_true, wrap_up hi hl]
      exact ih () trivial
    · intro ys hI
      apply Ev.succ
      simp only [laws_eqReadMarkS.l0, Int.lt_irrefl, if_false]
      exact Ev.now _
  unfold laws_eqReadMarkS.f
  simp only [if_true]
  exact h

theorem ev_eqVersionS (l : List S76) (hl : l.length ≤ 9223372036854775807) : Ev (fun k => laws_eqVersionS.f k l l) true := by
  have h : Ev (fun k => laws_eqVersionS.l0 k l l ((0 : Nat) : Int)) true := by
    refine ev_up (σ := Unit) (fun _ i k => laws_eqVersionS.l0 k l l (i : Int)) l.length (fun _ _ => True) (fun _ _ => true) ?_ ?_ () 0 (Nat.zero_le _) trivial
    · intro ys i hi hI ih
      apply Ev.succ
      have h1 : (i : Int) < (l.length : Int) := by omega
      simp only [laws_eqVersionS.l0, laws_eqVersion.f, Option.bind_some, h1, Int.natCast_nonneg, if_true, wrap_up hi hl]
      exact ih () trivial
    · intro ys hI
      apply Ev.succ
      simp only [laws_eqVersionS.l0, Int.lt_irrefl, if_false]
      exact Ev.now _
  unfold laws_eqVersionS.f
  simp only [if_true]
  exact h

theorem ev_eqWaitS (l : List S36) (hl : l.length ≤ 9223372036854775807) : Ev (fun k => laws_eqWaitS.f k l l) true := by
  have h : Ev (fun k => laws_eqWaitS.l0 k l l ((0 : Nat) : Int)) true := by
    refine ev_up (σ := Unit) (fun _ i k => laws_eqWaitS.l0 k l l (i : Int)) l.length (fun _ _ => True) (fun _ _ => true) ?_ ?_ () 0 (Nat.zero_le _) trivial
    · intro ys i hi hI ih
      apply Ev.succ
      have h1 : (i : Int) < (l.length : Int) := by omega
      simp only [laws_eqWaitS.l0, laws_eqWait.f, Option.bind_some, h1, Int.natCast_nonneg, if_true, wrap_up hi hl]
      exact ih () trivial
    · intro ys hI
      apply Ev.succ
      simp only [laws_eqWaitS.l0, Int.lt_irrefl, if_false]
      exact Ev.now _
  unfold laws_eqWaitS.f
  simp only [if_true]
  exact h

theorem ev_eqWriteS (l : List S133) (hl : l.length ≤ 9223372036854775807) : Ev (fun k => laws_eqWriteS.f k l l) true := by
  have h : Ev (fun k => laws_eqWriteS.l0 k l l ((0 : Nat) : Int)) true := by
    refine ev_up (σ := Unit) (fun _ i k => laws_eqWriteS.l0 k l l (i : Int)) l.length (fun _ _ => True) (fun _ _ => true) ?_ ?_ () 0 (Nat.zero_le _) trivial
    · intro ys i hi hI ih
      apply Ev.succ
      have h1 : (i : Int) < (l.length : Int) := by omega
      simp only [laws_eqWriteS.l0, laws_eqWrite.f, Option.bind_some, h1, Int.natCast_nonneg, if_true, wrap_up hi hl]
      exact ih () trivial
    · intro ys hI
      apply Ev.succ
      simp only [laws_eqWriteS.l0, Int.lt_irrefl, if_false]
      exact Ev.now _
  unfold laws_eqWriteS.f
  simp only [if_true]
  exact h

def fit_Transaction (x : S60) : Prop := x.f7.length ≤ 1048576 ∧ x.f8.length ≤ 1048576
def lim_Transaction (x : S60) : Prop := x.f7.length ≤ 9223372036854775807 ∧ x.f8.length ≤ 9223372036854775807
def fitd_Transaction (x : S68) : Prop := x.f7.length ≤ 1048576 ∧ x.f8.length ≤ 1048576
theorem sz_Transaction (x : S60) (a : Int) (h0 : 0 ≤ a) (h1 : a ≤ 1048576) (hg : lim_Transaction x) : ∃ r, Ev (fun k => laws_szTransaction.f x.f0 x.f1 x.f2 x.f3 x.f4 x.f5 x.f6 x.f7 x.f8 a) r ∧ r ≤ a ∧ (0 ≤ r → fit_Transaction x) := by
  unfold lim_Transaction at hg
  unfold laws_szTransaction.f fit_Transaction
  obtain ⟨r0, e0, u0, f0⟩ := szx_ReadMark x.f7 a h0 h1 hg.1
  by_cases c0 : r0 < 0
  · exact ⟨-1, Ev.bind e0 (by simp only [c0, if_true]; exact Ev.now _), by omega, fun h => absurd h (by omega)⟩
  obtain ⟨r1, e1, u1, f1⟩ := szx_Write x.f8 r0 (by omega) (by omega) hg.2
  by_cases c1 : r1 < 0
  · exact ⟨-1, Ev.bind e0 (by simp only [c0, if_false]; exact Ev.bind e1 (by simp only [c1, if_true]; exact Ev.now _)), by omega, fun h => absurd h (by omega)⟩
  exact ⟨r1, Ev.bind e0 (by simp only [c0, if_false]; exact Ev.bind e1 (by simp only [c1, if_false]; exact Ev.now _)), by omega, fun _ => ⟨f0 (by omega), f1 (by omega)⟩⟩

theorem sz_TransactionS (l : List S60) (a : Int) (h0 : 0 ≤ a) (h1 : a ≤ 1048576) (hl : l.length ≤ 9223372036854775807) (hg : ∀ e ∈ l, lim_Transaction e) : ∃ r, Ev (fun k => laws_szTransactionS.f k l a) r ∧ r ≤ a ∧ (0 ≤ r → (l.length ≤ 1048576 ∧ ∀ e ∈ l, fit_Transaction e)) := by
  unfold laws_szTransactionS.f
  rw [wrap_in (by omega) (by omega)]
  by_cases h : a - (l.length : Int) < 0
  · simp only [h, if_true]; exact ⟨-1, Ev.now _, by omega, fun h => absurd h (by omega)⟩
  simp only [h, if_false]
  refine ev_to (σ := Int) (fun s i k => laws_szTransactionS.l0 k l s (i : Int)) l.length (fun s i => 0 ≤ s ∧ s ≤ a ∧ ∀ j (hj : j < l.length), j < i → fit_Transaction l[j]) (fun r => r ≤ a ∧ (0 ≤ r → (l.length ≤ 1048576 ∧ ∀ e ∈ l, fit_Transaction e))) ?_ ?_ (a - (l.length : Int)) 0 (Nat.zero_le _) ⟨by omega, by omega, fun j hj h => absurd h (by omega)⟩
  · intro s i hi ⟨hs, hsa, hI⟩ ih
    have h2 : (i : Int) < (l.length : Int) := by omega
    have hrd : rd_T60 l (i : Int) = l[i] := by simp [rd_T60, hi]
    obtain ⟨r, e, hr, hf⟩ := sz_Transaction (rd_T60 l (i : Int)) s hs (by omega) (hg _ (by rw [hrd]; exact List.getElem_mem hi))
    by_cases c : r < 0
    · refine ⟨-1, Ev.succ ?_, by omega, fun h => absurd h (by omega)⟩
      simp only [laws_szTransactionS.l0, h2, Int.natCast_nonneg, if_true]
      exact Ev.bind e (by simp only [c, if_true]; exact Ev.now _)
    · obtain ⟨r', e', h'⟩ := ih r ⟨by omega, by omega, fun j hj hji => if hh : j < i then hI j hj hh else by obtain rfl : j = i := by omega
                                                                                                             rw [← hrd]; exact hf (by omega)⟩
      refine ⟨r', Ev.succ ?_, h'⟩
      simp only [laws_szTransactionS.l0, h2, Int.natCast_nonneg, if_true]
      exact Ev.bind e (by simp only [c, if_false, wrap_up hi (by omega)]; exact e')
  · intro s ⟨hs, hsa, hI⟩
    refine ⟨s, Ev.succ ?_, hsa, fun _ => ⟨by omega, fun e he => ?_⟩⟩
    · simp only [laws_szTransactionS.l0, Int.lt_irrefl, if_false]; exact Ev.now _
    · obtain ⟨j, hj, rfl⟩ := List.getElem_of_mem he
      exact hI j hj hj

def cvTransaction (x : S60) : S68 := ⟨x.f0, x.f1, x.f2, x.f3, x.f4, x.f5, x.f6, x.f7.map cvReadMark, x.f8.map cvWrite⟩
theorem fitd_cvTransaction (x : S60) (h : fit_Transaction x) : fitd_Transaction (cvTransaction x) := by
  simpa [fit_Transaction, fitd_Transaction, cvTransaction] using h

theorem ev_toTransaction (x : S60) (h : fit_Transaction x) : Ev (fun k => laws_toTransaction.f k x.f0 x.f1 x.f2 x.f3 x.f4 x.f5 x.f6 x.f7 x.f8) (x.f0, x.f1, x.f2, x.f3, x.f4, x.f5, x.f6, x.f7.map cvReadMark, x.f8.map cvWrite) := by
  unfold fit_Transaction at h
  unfold laws_toTransaction.f
  exact Ev.bind (ev_toReadMarkS x.f7 h.1) (Ev.bind (ev_toWriteS x.f8 h.2) (Ev.now _))

theorem ev_toTransactionS (l : List S60) (h : l.length ≤ 1048576 ∧ ∀ e ∈ l, fit_Transaction e) : Ev (fun k => laws_toTransactionS.f k l) (l.map cvTransaction) := by
  have hl := h.1
  have hh : Ev (fun k => laws_toTransactionS.l0 k l (List.replicate l.length z68) ((0 : Nat) : Int)) (l.map cvTransaction) := by
    refine ev_up (σ := List S68) (fun ys i k => laws_toTransactionS.l0 k l ys (i : Int)) l.length (fun ys i => Filled (l.map cvTransaction) ys i) (fun _ _ => l.map cvTransaction) ?_ ?_ (List.replicate l.length z68) 0 (Nat.zero_le _) (Filled.start _ _ (by simp))
    · intro ys i hi hI ih
      apply Ev.succ
      have h1 : (i : Int) < (l.length : Int) := by omega
      have h2 : (i : Int) < (ys.length : Int) := by have := hI.1; simp at this; omega
      have hrd : rd_T60 l (i : Int) = l[i] := by simp [rd_T60, hi]
      simp only [laws_toTransactionS.l0, h1, Int.natCast_nonneg, if_true]
      refine Ev.bind (ev_toTransaction _ (by rw [hrd]; exact h.2 _ (List.getElem_mem hi))) ?_
      simp only [h2, if_true, Int.toNat_natCast, wrap_up hi (by omega)]
      exact ih _ (hI.step (by simpa using hi) (by simp [cvTransaction, hrd]))
    · intro ys hI
      apply Ev.succ
      simp only [laws_toTransactionS.l0, Int.lt_irrefl, if_false]
      exact Ev.some (Filled.done (by simpa using hI))
  unfold laws_toTransactionS.f
  have h3 : ((l.length : Int) : Int).toNat ≤ 2706490160679 := by omega
  simp only [Int.natCast_nonneg, if_true, h3]
  simpa using hh
theorem fitds_cvTransaction (l : List S60) (h : l.length ≤ 1048576 ∧ ∀ e ∈ l, fit_Transaction e) : (l.map cvTransaction).length ≤ 1048576 ∧ ∀ e ∈ l.map cvTransaction, fitd_Transaction e := by
  refine ⟨by simpa using h.1, fun e he => ?_⟩
  obtain ⟨x, hx, rfl⟩ := List.mem_map.mp he
  exact fitd_cvTransaction x (h.2 x hx)

theorem ev_eqTransaction (x : S68) (h : fitd_Transaction x) : Ev (fun k => laws_eqTransaction.f k x.f0 x.f1 x.f2 x.f3 x.f4 x.f5 x.f6 x.f7 x.f8 x.f0 x.f1 x.f2 x.f3 x.f4 x.f5 x.f6 x.f7 x.f8) true := by
  unfold fitd_Transaction at h
  unfold laws_eqTransaction.f
  simp only [if_true]
  exact Ev.bind (ev_eqReadMarkS x.f7 (by have := h.1; omega)) (by simp only [if_true]; exact Ev.bind (ev_eqWriteS x.f8 (by have := h.2; omega)) (by simp only [if_true]; exact Ev.now _))

theorem ev_eqTransactionS (l : List S68) (h : l.length ≤ 1048576 ∧ ∀ e ∈ l, fitd_Transaction e) : Ev (fun k => laws_eqTransactionS.f k l l) true := by
  have hl := h.1
  have hh : Ev (fun k => laws_eqTransactionS.l0 k l l ((0 : Nat) : Int)) true := by
    refine ev_up (σ := Unit) (fun _ i k => laws_eqTransactionS.l0 k l l (i : Int)) l.length (fun _ _ => True) (fun _ _ => true) ?_ ?_ () 0 (Nat.zero_le _) trivial
    · intro ys i hi hI ih
      apply Ev.succ
      have h1 : (i : Int) < (l.length : Int) := by omega
      have hrd : rd_T68 l (i : Int) = l[i] := by simp [rd_T68, hi]
      simp only [laws_eqTransactionS.l0, h1, Int.natCast_nonneg, if_true]
      refine Ev.bind (ev_eqTransaction _ (by rw [hrd]; exact h.2 _ (List.getElem_mem hi))) ?_
      simp only [if_true, wrap_up hi (by omega)]
      exact ih () trivial
    · intro ys hI
      apply Ev.succ
      simp only [laws_eqTransactionS.l0, Int.lt_irrefl, if_false]
      exact Ev.now _
  unfold laws_eqTransactionS.f
  simp only [if_true]
  exact hh

theorem sz_VersionSS (l : List (List S207)) (a : Int) (h0 : 0 ≤ a) (h1 : a ≤ 1048576) (hl : l.length ≤ 9223372036854775807) (hg : ∀ e ∈ l, e.length ≤ 9223372036854775807) : ∃ r, Ev (fun k => laws_szVersionSS.f k l a) r ∧ r ≤ a ∧ (0 ≤ r → (l.length ≤ 1048576 ∧ ∀ e ∈ l, e.length ≤ 1048576)) := by
  unfold laws_szVersionSS.f
  rw [wrap_in (by omega) (by omega)]
  by_cases h : a - (l.length : Int) < 0
  · simp only [h, if_true]; exact ⟨-1, Ev.now _, by omega, fun h => absurd h (by omega)⟩
  simp only [h, if_false]
  refine ev_to (σ := Int) (fun s i k => laws_szVersionSS.l0 k l s (i : Int)) l.length (fun s i => 0 ≤ s ∧ s ≤ a ∧ ∀ j (hj : j < l.length), j < i → l[j].length ≤ 1048576) (fun r => r ≤ a ∧ (0 ≤ r → (l.length ≤ 1048576 ∧ ∀ e ∈ l, e.length ≤ 1048576))) ?_ ?_ (a - (l.length : Int)) 0 (Nat.zero_le _) ⟨by omega, by omega, fun j hj h => absurd h (by omega)⟩
  · intro s i hi ⟨hs, hsa, hI⟩ ih
    have h2 : (i : Int) < (l.length : Int) := by omega
    have hrd : rd_L2 l (i : Int) = l[i] := by simp [rd_L2, hi]
    obtain ⟨r, e, hr, hf⟩ := szx_Version (rd_L2 l (i : Int)) s hs (by omega) (by rw [hrd]; exact hg _ (List.getElem_mem hi))
    by_cases c : r < 0
    · refine ⟨-1, Ev.succ ?_, by omega, fun h => absurd h (by omega)⟩
      simp only [laws_szVersionSS.l0, h2, Int.natCast_nonneg, if_true]
      exact Ev.bind e (by simp only [c, if_true]; exact Ev.now _)
    · obtain ⟨r', e', h'⟩ := ih r ⟨by omega, by omega, fun j hj hji => if hh : j < i then hI j hj hh else by obtain rfl : j = i := (by omega); rw [← hrd]; exact hf (by omega)⟩
      refine ⟨r', Ev.succ ?_, h'⟩
      simp only [laws_szVersionSS.l0, h2, Int.natCast_nonneg, if_true]
      exact Ev.bind e (by simp only [c, if_false, wrap_up hi (by omega)]; exact e')
  · intro s ⟨hs, hsa, hI⟩
    refine ⟨s, Ev.succ ?_, hsa, fun _ => ⟨by omega, fun e he => ?_⟩⟩
    · simp only [laws_szVersionSS.l0, Int.lt_irrefl, if_false]; exact Ev.now _
    · obtain ⟨j, hj, rfl⟩ := List.getElem_of_mem he
      exact hI j hj hj

theorem ev_toVersionSS (l : List (List S207)) (h : l.length ≤ 1048576 ∧ ∀ e ∈ l, e.length ≤ 1048576) : Ev (fun k => laws_toVersionSS.f k l) (l.map (List.map cvVersion)) := by
  have hl := h.1
  have hh : Ev (fun k => laws_toVersionSS.l0 k l (List.replicate l.length []) ((0 : Nat) : Int)) (l.map (List.map cvVersion)) := by
    refine ev_up (σ := List (List S76)) (fun ys i k => laws_toVersionSS.l0 k l ys (i : Int)) l.length (fun ys i => Filled (l.map (List.map cvVersion)) ys i) (fun _ _ => l.map (List.map cvVersion)) ?_ ?_ (List.replicate l.length []) 0 (Nat.zero_le _) (Filled.start _ _ (by simp))
    · intro ys i hi hI ih
      apply Ev.succ
      have h1 : (i : Int) < (l.length : Int) := by omega
      have h2 : (i : Int) < (ys.length : Int) := by have := hI.1; simp at this; omega
      have hrd : rd_L2 l (i : Int) = l[i] := by simp [rd_L2, hi]
      simp only [laws_toVersionSS.l0, h1, Int.natCast_nonneg, if_true]
      refine Ev.bind (ev_toVersionS _ (by rw [hrd]; exact h.2 _ (List.getElem_mem hi))) ?_
      simp only [h2, if_true, Int.toNat_natCast, wrap_up hi (by omega)]
      exact ih _ (hI.step (by simpa using hi) (by simp [hrd]))
    · intro ys hI
      apply Ev.succ
      simp only [laws_toVersionSS.l0, Int.lt_irrefl, if_false]
      exact Ev.some (Filled.done (by simpa using hI))
  unfold laws_toVersionSS.f
  have h3 : ((l.length : Int) : Int).toNat ≤ 11728124029610 := by omega
  simp only [Int.natCast_nonneg, if_true, h3]
  simpa using hh

theorem ev_eqVersionSS (l : List (List S76)) (h : l.length ≤ 1048576 ∧ ∀ e ∈ l, e.length ≤ 1048576) : Ev (fun k => laws_eqVersionSS.f k l l) true := by
  have hl := h.1
  have hh : Ev (fun k => laws_eqVersionSS.l0 k l l ((0 : Nat) : Int)) true := by
    refine ev_up (σ := Unit) (fun _ i k => laws_eqVersionSS.l0 k l l (i : Int)) l.length (fun _ _ => True) (fun _ _ => true) ?_ ?_ () 0 (Nat.zero_le _) trivial
    · intro ys i hi hI ih
      apply Ev.succ
      have h1 : (i : Int) < (l.length : Int) := by omega
      have hrd : rd_L11 l (i : Int) = l[i] := by simp [rd_L11, hi]
      simp only [laws_eqVersionSS.l0, h1, Int.natCast_nonneg, if_true]
      refine Ev.bind (ev_eqVersionS _ (by rw [hrd]; have := h.2 _ (List.getElem_mem hi); omega)) ?_
      simp only [if_true, wrap_up hi (by omega)]
      exact ih () trivial
    · intro ys hI
      apply Ev.succ
      simp only [laws_eqVersionSS.l0, Int.lt_irrefl, if_false]
      exact Ev.now _
  unfold laws_eqVersionSS.f
  simp only [if_true]
  exact hh

def mkInt : Int → Int := (fun a : Int => a)
theorem ev_markIntS (l : List Int) (hl : l.length ≤ 4194304) : Ev (fun k => laws_markIntS.f k l 1) (1 + 1 * (l.length : Int), markL mkInt 1 l.length 1) := by
  have h : Ev (fun k => laws_markIntS.l0 k l 1 ((0 : Nat) : Int)) (1 + 1 * (l.length : Int), markL mkInt 1 l.length 1) := by
    refine ev_up (σ := List Int × Int) (fun s i k => laws_markIntS.l0 k s.1 s.2 (i : Int)) l.length (fun s i => Filled (markL mkInt 1 l.length 1) s.1 i ∧ s.2 = 1 + 1 * (i : Int)) (fun _ _ => (1 + 1 * (l.length : Int), markL mkInt 1 l.length 1)) ?_ ?_ (l, 1) 0 (Nat.zero_le _) ⟨Filled.start _ _ (by simp [markL_length]), by simp⟩
    · rintro ⟨ys, a⟩ i hi ⟨hI, ha⟩ ih
      apply Ev.succ
      dsimp only at ha hI ⊢
      have hly : ys.length = l.length := by have := hI.1; simpa [markL_length] using this
      have h1 : (i : Int) < (ys.length : Int) := by omega
      have hiy : i < ys.length := by omega
      have w0 : wrap64 (a + 1) = a + 1 := wrap_in (by omega) (by omega)
      have hr := ih (ys.set i (mkInt a), a + 1) ⟨hI.step (by simpa [markL_length] using hi) (by rw [markL_get, ha]; rfl), by dsimp only; omega⟩
      dsimp only at hr
      simp only [laws_markIntS.l0, Option.bind_some, h1, Int.natCast_nonneg, if_true, Int.toNat_natCast, wrap_up hi (by omega), w0]
      simpa [mkInt, hiy] using hr
    · rintro ⟨ys, a⟩ ⟨hI, ha⟩
      apply Ev.succ
      dsimp only at ha hI ⊢
      have hly : ys.length = l.length := by have := hI.1; simpa [markL_length] using this
      have h1 : ¬ ((l.length : Int) < (ys.length : Int)) := by omega
      simp only [laws_markIntS.l0, h1, if_false]
      have hd : ys = markL mkInt 1 l.length 1 := Filled.done (by rw [markL_length]; exact hI)
      exact Ev.some (by rw [ha, hd])
  exact h
theorem ev_heldIntS (n : Nat) (hn : n ≤ 4194304) : Ev (fun k => laws_heldIntS.f k (markL mkInt 1 n 1) 1) (1 + 1 * (n : Int)) := by
  have h : Ev (fun k => laws_heldIntS.l0 k (markL mkInt 1 n 1) 1 ((0 : Nat) : Int)) (1 + 1 * (n : Int)) := by
    refine ev_up (σ := Int) (fun a i k => laws_heldIntS.l0 k (markL mkInt 1 n 1) a (i : Int)) n (fun a i => a = 1 + 1 * (i : Int)) (fun _ _ => 1 + 1 * (n : Int)) ?_ ?_ 1 0 (Nat.zero_le _) (by simp)
    · intro a i hi ha ih
      apply Ev.succ
      have h1 : (i : Int) < ((markL mkInt 1 n 1).length : Int) := by rw [markL_length]; omega
      have hiy : i < (markL mkInt 1 n 1).length := by rw [markL_length]; omega
      have hg : (markL mkInt 1 n 1)[i] = mkInt a := by rw [markL_get, ha]; rfl
      have w0 : wrap64 (a + 1) = a + 1 := wrap_in (by omega) (by omega)
      have hr := ih (a + 1) (by omega)
      have hrd : rd (markL mkInt 1 n 1) (i : Int) = mkInt a := by rw [← hg]; simp [rd, hiy]
      simp only [laws_heldIntS.l0, h1, Int.natCast_nonneg, if_true, hrd, wrap_up hi (by omega), w0]
      simpa [mkInt] using hr
    · intro a ha
      apply Ev.succ
      have h1 : ¬ ((n : Int) < ((markL mkInt 1 n 1).length : Int)) := by rw [markL_length]; omega
      simp only [laws_heldIntS.l0, h1, if_false]
      exact Ev.some ha
  exact h

def mkLock : Int → S150 := (fun a : Int => (⟨a, a + 1⟩ : S150))
theorem ev_markLockS (l : List S150) (hl : l.length ≤ 4194304) : Ev (fun k => laws_markLockS.f k l 1) (1 + 2 * (l.length : Int), markL mkLock 2 l.length 1) := by
  have h : Ev (fun k => laws_markLockS.l0 k l 1 ((0 : Nat) : Int)) (1 + 2 * (l.length : Int), markL mkLock 2 l.length 1) := by
    refine ev_up (σ := List S150 × Int) (fun s i k => laws_markLockS.l0 k s.1 s.2 (i : Int)) l.length (fun s i => Filled (markL mkLock 2 l.length 1) s.1 i ∧ s.2 = 1 + 2 * (i : Int)) (fun _ _ => (1 + 2 * (l.length : Int), markL mkLock 2 l.length 1)) ?_ ?_ (l, 1) 0 (Nat.zero_le _) ⟨Filled.start _ _ (by simp [markL_length]), by simp⟩
    · rintro ⟨ys, a⟩ i hi ⟨hI, ha⟩ ih
      apply Ev.succ
      dsimp only at ha hI ⊢
      have hly : ys.length = l.length := by have := hI.1; simpa [markL_length] using this
      have h1 : (i : Int) < (ys.length : Int) := by omega
      have hiy : i < ys.length := by omega
      have w0 : wrap64 (a + 1) = a + 1 := wrap_in (by omega) (by omega)
      have w1 : wrap64 (a + 2) = a + 2 := wrap_in (by omega) (by omega)
      have hr := ih (ys.set i (mkLock a), a + 2) ⟨hI.step (by simpa [markL_length] using hi) (by rw [markL_get, ha]; rfl), by dsimp only; omega⟩
      dsimp only at hr
      simp only [laws_markLockS.l0, Option.bind_some, h1, Int.natCast_nonneg, if_true, Int.toNat_natCast, wrap_up hi (by omega), w0, w1, show a + 1 + 1 = a + 2 from by omega]
      simpa [mkLock, rd_T150, hiy] using hr
    · rintro ⟨ys, a⟩ ⟨hI, ha⟩
      apply Ev.succ
      dsimp only at ha hI ⊢
      have hly : ys.length = l.length := by have := hI.1; simpa [markL_length] using this
      have h1 : ¬ ((l.length : Int) < (ys.length : Int)) := by omega
      simp only [laws_markLockS.l0, h1, if_false]
      have hd : ys = markL mkLock 2 l.length 1 := Filled.done (by rw [markL_length]; exact hI)
      exact Ev.some (by rw [ha, hd])
  exact h

def mkReadMark : Int → S165 := (fun a : Int => (⟨a, a + 1⟩ : S165))
theorem ev_markReadMarkS (l : List S165) (hl : l.length ≤ 4194304) : Ev (fun k => laws_markReadMarkS.f k l 1) (1 + 2 * (l.length : Int), markL mkReadMark 2 l.length 1) := by
  have h : Ev (fun k => laws_markReadMarkS.l0 k l 1 ((0 : Nat) : Int)) (1 + 2 * (l.length : Int), markL mkReadMark 2 l.length 1) := by
    refine ev_up (σ := List S165 × Int) (fun s i k => laws_markReadMarkS.l0 k s.1 s.2 (i : Int)) l.length (fun s i => Filled (markL mkReadMark 2 l.length 1) s.1 i ∧ s.2 = 1 + 2 * (i : Int)) (fun _ _ => (1 + 2 * (l.length : Int), markL mkReadMark 2 l.length 1)) ?_ ?_ (l, 1) 0 (Nat.zero_le _) ⟨Filled.start _ _ (by simp [markL_length]), by simp⟩
    · rintro ⟨ys, a⟩ i hi ⟨hI, ha⟩ ih
      apply Ev.succ
      dsimp only at ha hI ⊢
      have hly : ys.length = l.length := by have := hI.1; simpa [markL_length] using this
      have h1 : (i : Int) < (ys.length : Int) := by omega
      have hiy : i < ys.length := by omega
      have w0 : wrap64 (a + 1) = a + 1 := wrap_in (by omega) (by omega)
      have w1 : wrap64 (a + 2) = a + 2 := wrap_in (by omega) (by omega)
      have hr := ih (ys.set i (mkReadMark a), a + 2) ⟨hI.step (by simpa [markL_length] using hi) (by rw [markL_get, ha]; rfl), by dsimp only; omega⟩
      dsimp only at hr
      simp only [laws_markReadMarkS.l0, Option.bind_some, h1, Int.natCast_nonneg, if_true, Int.toNat_natCast, wrap_up hi (by omega), w0, w1, show a + 1 + 1 = a + 2 from by omega]
      simpa [mkReadMark, rd_T165, hiy] using hr
    · rintro ⟨ys, a⟩ ⟨hI, ha⟩
      apply Ev.succ
      dsimp only at ha hI ⊢
      have hly : ys.length = l.length := by have := hI.1; simpa [markL_length] using this
      have h1 : ¬ ((l.length : Int) < (ys.length : Int)) := by omega
      simp only [laws_markReadMarkS.l0, h1, if_false]
      have hd : ys = markL mkReadMark 2 l.length 1 := Filled.done (by rw [markL_length]; exact hI)
      exact Ev.some (by rw [ha, hd])
  exact h

def mkVersion : Int → S76 := (fun a : Int => (⟨a, a + 1, a + 2, a + 3, a + 4⟩ : S76))
theorem ev_markVersionS (l : List S76) (hl : l.length ≤ 4194304) : Ev (fun k => laws_markVersionS.f k l 1) (1 + 5 * (l.length : Int), markL mkVersion 5 l.length 1) := by
  have h : Ev (fun k => laws_markVersionS.l0 k l 1 ((0 : Nat) : Int)) (1 + 5 * (l.length : Int), markL mkVersion 5 l.length 1) := by
    refine ev_up (σ := List S76 × Int) (fun s i k => laws_markVersionS.l0 k s.1 s.2 (i : Int)) l.length (fun s i => Filled (markL mkVersion 5 l.length 1) s.1 i ∧ s.2 = 1 + 5 * (i : Int)) (fun _ _ => (1 + 5 * (l.length : Int), markL mkVersion 5 l.length 1)) ?_ ?_ (l, 1) 0 (Nat.zero_le _) ⟨Filled.start _ _ (by simp [markL_length]), by simp⟩
    · rintro ⟨ys, a⟩ i hi ⟨hI, ha⟩ ih
      apply Ev.succ
      dsimp only at ha hI ⊢
      have hly : ys.length = l.length := by have := hI.1; simpa [markL_length] using this
      have h1 : (i : Int) < (ys.length : Int) := by omega
      have hiy : i < ys.length := by omega
      have w0 : wrap64 (a + 1) = a + 1 := wrap_in (by omega) (by omega)
      have w1 : wrap64 (a + 2) = a + 2 := wrap_in (by omega) (by omega)
      have w2 : wrap64 (a + 3) = a + 3 := wrap_in (by omega) (by omega)
      have w3 : wrap64 (a + 4) = a + 4 := wrap_in (by omega) (by omega)
      have w4 : wrap64 (a + 5) = a + 5 := wrap_in (by omega) (by omega)
      have hr := ih (ys.set i (mkVersion a), a + 5) ⟨hI.step (by simpa [markL_length] using hi) (by rw [markL_get, ha]; rfl), by dsimp only; omega⟩
      dsimp only at hr
      simp only [laws_markVersionS.l0, Option.bind_some, h1, Int.natCast_nonneg, if_true, Int.toNat_natCast, wrap_up hi (by omega), w0, w1, w2, w3, w4, show a + 1 + 1 = a + 2 from by omega, show a + 2 + 1 = a + 3 from by omega, show a + 3 + 1 = a + 4 from by omega, show a + 4 + 1 = a + 5 from by omega]
      simpa [mkVersion, rd_T76, hiy] using hr
    · rintro ⟨ys, a⟩ ⟨hI, ha⟩
      apply Ev.succ
      dsimp only at ha hI ⊢
      have hly : ys.length = l.length := by have := hI.1; simpa [markL_length] using this
      have h1 : ¬ ((l.length : Int) < (ys.length : Int)) := by omega
      simp only [laws_markVersionS.l0, h1, if_false]
      have hd : ys = markL mkVersion 5 l.length 1 := Filled.done (by rw [markL_length]; exact hI)
      exact Ev.some (by rw [ha, hd])
  exact h

def mkWait : Int → S36 := (fun a : Int => (⟨a, a + 1⟩ : S36))
theorem ev_markWaitS (l : List S36) (hl : l.length ≤ 4194304) : Ev (fun k => laws_markWaitS.f k l 1) (1 + 2 * (l.length : Int), markL mkWait 2 l.length 1) := by
  have h : Ev (fun k => laws_markWaitS.l0 k l 1 ((0 : Nat) : Int)) (1 + 2 * (l.length : Int), markL mkWait 2 l.length 1) := by
    refine ev_up (σ := List S36 × Int) (fun s i k => laws_markWaitS.l0 k s.1 s.2 (i : Int)) l.length (fun s i => Filled (markL mkWait 2 l.length 1) s.1 i ∧ s.2 = 1 + 2 * (i : Int)) (fun _ _ => (1 + 2 * (l.length : Int), markL mkWait 2 l.length 1)) ?_ ?_ (l, 1) 0 (Nat.zero_le _) ⟨Filled.start _ _ (by simp [markL_length]), by simp⟩
    · rintro ⟨ys, a⟩ i hi ⟨hI, ha⟩ ih
      apply Ev.succ
      dsimp only at ha hI ⊢
      have hly : ys.length = l.length := by have := hI.1; simpa [markL_length] using this
      have h1 : (i : Int) < (ys.length : Int) := by omega
      have hiy : i < ys.length := by omega
      have w0 : wrap64 (a + 1) = a + 1 := wrap_in (by omega) (by omega)
      have w1 : wrap64 (a + 2) = a + 2 := wrap_in (by omega) (by omega)
      have hr := ih (ys.set i (mkWait a), a + 2) ⟨hI.step (by simpa [markL_length] using hi) (by rw [markL_get, ha]; rfl), by dsimp only; omega⟩
      dsimp only at hr
      simp only [laws_markWaitS.l0, Option.bind_some, h1, Int.natCast_nonneg, if_true, Int.toNat_natCast, wrap_up hi (by omega), w0, w1, show a + 1 + 1 = a + 2 from by omega]
      simpa [mkWait, rd_T36, hiy] using hr
    · rintro ⟨ys, a⟩ ⟨hI, ha⟩
      apply Ev.succ
      dsimp only at ha hI ⊢
      have hly : ys.length = l.length := by have := hI.1; simpa [markL_length] using this
      have h1 : ¬ ((l.length : Int) < (ys.length : Int)) := by omega
      simp only [laws_markWaitS.l0, h1, if_false]
      have hd : ys = markL mkWait 2 l.length 1 := Filled.done (by rw [markL_length]; exact hI)
      exact Ev.some (by rw [ha, hd])
  exact h

def mkWrite : Int → S133 := (fun a : Int => (⟨a, a + 1⟩ : S133))
theorem ev_markWriteS (l : List S133) (hl : l.length ≤ 4194304) : Ev (fun k => laws_markWriteS.f k l 1) (1 + 2 * (l.length : Int), markL mkWrite 2 l.length 1) := by
  have h : Ev (fun k => laws_markWriteS.l0 k l 1 ((0 : Nat) : Int)) (1 + 2 * (l.length : Int), markL mkWrite 2 l.length 1) := by
    refine ev_up (σ := List S133 × Int) (fun s i k => laws_markWriteS.l0 k s.1 s.2 (i : Int)) l.length (fun s i => Filled (markL mkWrite 2 l.length 1) s.1 i ∧ s.2 = 1 + 2 * (i : Int)) (fun _ _ => (1 + 2 * (l.length : Int), markL mkWrite 2 l.length 1)) ?_ ?_ (l, 1) 0 (Nat.zero_le _) ⟨Filled.start _ _ (by simp [markL_length]), by simp⟩
    · rintro ⟨ys, a⟩ i hi ⟨hI, ha⟩ ih
      apply Ev.succ
      dsimp only at ha hI ⊢
      have hly : ys.length = l.length := by have := hI.1; simpa [markL_length] using this
      have h1 : (i : Int) < (ys.length : Int) := by omega
      have hiy : i < ys.length := by omega
      have w0 : wrap64 (a + 1) = a + 1 := wrap_in (by omega) (by omega)
      have w1 : wrap64 (a + 2) = a + 2 := wrap_in (by omega) (by omega)
      have hr := ih (ys.set i (mkWrite a), a + 2) ⟨hI.step (by simpa [markL_length] using hi) (by rw [markL_get, ha]; rfl), by dsimp only; omega⟩
      dsimp only at hr
      simp only [laws_markWriteS.l0, Option.bind_some, h1, Int.natCast_nonneg, if_true, Int.toNat_natCast, wrap_up hi (by omega), w0, w1, show a + 1 + 1 = a + 2 from by omega]
      simpa [mkWrite, rd_T133, hiy] using hr
    · rintro ⟨ys, a⟩ ⟨hI, ha⟩
      apply Ev.succ
      dsimp only at ha hI ⊢
      have hly : ys.length = l.length := by have := hI.1; simpa [markL_length] using this
      have h1 : ¬ ((l.length : Int) < (ys.length : Int)) := by omega
      simp only [laws_markWriteS.l0, h1, if_false]
      have hd : ys = markL mkWrite 2 l.length 1 := Filled.done (by rw [markL_length]; exact hI)
      exact Ev.some (by rw [ha, hd])
  exact h


theorem both_TransactionIDs (c : Bool) (vs : List (List S76)) (l : List S68) (ls : List S150) (ws : List S36) (st a : Int) (hl : l.length ≤ 1048576) : ∃ r, Ev (fun k => spec_TransactionIDs.f k c vs l ls ws st a) r ∧ Ev (fun k => impl_TransactionIDs.f k c vs l ls ws st a) r ∧ r.length ≤ l.length := by
  unfold spec_TransactionIDs.f impl_TransactionIDs.f
  refine ev_both (σ := List Int) (τ := List Int) (fun x i k => spec_TransactionIDs.l0 k a x (i : Int) c vs l ls ws st) (fun x i k => impl_TransactionIDs.l0 k a x l (l.length : Int) (i : Int)) l.length (fun x y i => x = y ∧ x.length ≤ i) (fun r => r.length ≤ l.length) ?_ ?_ [] [] 0 (Nat.zero_le _) ⟨rfl, Nat.le_refl _⟩
  · rintro x _ i hi ⟨rfl, hx⟩ ih
    have h1 : (i : Int) < (l.length : Int) := by omega
    have h2 : x.length < 17592186044416 := by omega
    have e0 := wrap_up hi (by omega)
    by_cases c : (rd_T68 l i).f2 = a
    · obtain ⟨r, hs, ht, hR⟩ := ih (x ++ [(rd_T68 l i).f0]) _ ⟨rfl, by rw [List.length_append, List.length_singleton]; omega⟩
      refine ⟨r, Ev.succ ?_, Ev.succ ?_, hR⟩ <;> (simp only [spec_TransactionIDs.l0, impl_TransactionIDs.l0, h1, h2, c, e0, Int.natCast_nonneg, if_true]; assumption)
    · obtain ⟨r, hs, ht, hR⟩ := ih x _ ⟨rfl, by omega⟩
      refine ⟨r, Ev.succ ?_, Ev.succ ?_, hR⟩ <;> (simp only [spec_TransactionIDs.l0, impl_TransactionIDs.l0, h1, h2, c, e0, Int.natCast_nonneg, if_true, if_false]; assumption)
  · rintro x _ ⟨rfl, hx⟩
    refine ⟨x, Ev.succ ?_, Ev.succ ?_, hx⟩ <;> (simp only [spec_TransactionIDs.l0, impl_TransactionIDs.l0, Int.lt_irrefl, if_false]; exact Ev.now _)
theorem evb_markReadMarkS (l : List S165) (b : Int) (hb0 : 0 ≤ b) (hb : b ≤ 9007199254740992) (hl : l.length ≤ 4194304) : Ev (fun k => laws_markReadMarkS.f k l b) (b + 2 * (l.length : Int), markL mkReadMark 2 l.length b) := by
  have h : Ev (fun k => laws_markReadMarkS.l0 k l b ((0 : Nat) : Int)) (b + 2 * (l.length : Int), markL mkReadMark 2 l.length b) := by
    refine ev_up (σ := List S165 × Int) (fun s i k => laws_markReadMarkS.l0 k s.1 s.2 (i : Int)) l.length (fun s i => Filled (markL mkReadMark 2 l.length b) s.1 i ∧ s.2 = b + 2 * (i : Int)) (fun _ _ => (b + 2 * (l.length : Int), markL mkReadMark 2 l.length b)) ?_ ?_ (l, b) 0 (Nat.zero_le _) ⟨Filled.start _ _ (by simp [markL_length]), by simp⟩
    · rintro ⟨ys, a⟩ i hi ⟨hI, ha⟩ ih
      apply Ev.succ
      dsimp only at ha hI ⊢
      have hly : ys.length = l.length := by have := hI.1; simpa [markL_length] using this
      have h1 : (i : Int) < (ys.length : Int) := by omega
      have hiy : i < ys.length := by omega
      have w0 : wrap64 (a + 1) = a + 1 := wrap_in (by omega) (by omega)
      have w1 : wrap64 (a + 2) = a + 2 := wrap_in (by omega) (by omega)
      have hr := ih (ys.set i (mkReadMark a), a + 2) ⟨hI.step (by simpa [markL_length] using hi) (by rw [markL_get, ha]; rfl), by dsimp only; omega⟩
      dsimp only at hr
      simp only [laws_markReadMarkS.l0, Option.bind_some, h1, Int.natCast_nonneg, if_true, Int.toNat_natCast, wrap_up hi (by omega), w0, w1, show a + 1 + 1 = a + 2 from by omega]
      simpa [mkReadMark, rd_T165, hiy] using hr
    · rintro ⟨ys, a⟩ ⟨hI, ha⟩
      apply Ev.succ
      dsimp only at ha hI ⊢
      have hly : ys.length = l.length := by have := hI.1; simpa [markL_length] using this
      have h1 : ¬ ((l.length : Int) < (ys.length : Int)) := by omega
      simp only [laws_markReadMarkS.l0, h1, if_false]
      have hd : ys = markL mkReadMark 2 l.length b := Filled.done (by rw [markL_length]; exact hI)
      exact Ev.some (by rw [ha, hd])
  exact h
theorem evb_markWriteS (l : List S133) (b : Int) (hb0 : 0 ≤ b) (hb : b ≤ 9007199254740992) (hl : l.length ≤ 4194304) : Ev (fun k => laws_markWriteS.f k l b) (b + 2 * (l.length : Int), markL mkWrite 2 l.length b) := by
  have h : Ev (fun k => laws_markWriteS.l0 k l b ((0 : Nat) : Int)) (b + 2 * (l.length : Int), markL mkWrite 2 l.length b) := by
    refine ev_up (σ := List S133 × Int) (fun s i k => laws_markWriteS.l0 k s.1 s.2 (i : Int)) l.length (fun s i => Filled (markL mkWrite 2 l.length b) s.1 i ∧ s.2 = b + 2 * (i : Int)) (fun _ _ => (b + 2 * (l.length : Int), markL mkWrite 2 l.length b)) ?_ ?_ (l, b) 0 (Nat.zero_le _) ⟨Filled.start _ _ (by simp [markL_length]), by simp⟩
    · rintro ⟨ys, a⟩ i hi ⟨hI, ha⟩ ih
      apply Ev.succ
      dsimp only at ha hI ⊢
      have hly : ys.length = l.length := by have := hI.1; simpa [markL_length] using this
      have h1 : (i : Int) < (ys.length : Int) := by omega
      have hiy : i < ys.length := by omega
      have w0 : wrap64 (a + 1) = a + 1 := wrap_in (by omega) (by omega)
      have w1 : wrap64 (a + 2) = a + 2 := wrap_in (by omega) (by omega)
      have hr := ih (ys.set i (mkWrite a), a + 2) ⟨hI.step (by simpa [markL_length] using hi) (by rw [markL_get, ha]; rfl), by dsimp only; omega⟩
      dsimp only at hr
      simp only [laws_markWriteS.l0, Option.bind_some, h1, Int.natCast_nonneg, if_true, Int.toNat_natCast, wrap_up hi (by omega), w0, w1, show a + 1 + 1 = a + 2 from by omega]
      simpa [mkWrite, rd_T133, hiy] using hr
    · rintro ⟨ys, a⟩ ⟨hI, ha⟩
      apply Ev.succ
      dsimp only at ha hI ⊢
      have hly : ys.length = l.length := by have := hI.1; simpa [markL_length] using this
      have h1 : ¬ ((l.length : Int) < (ys.length : Int)) := by omega
      simp only [laws_markWriteS.l0, h1, if_false]
      have hd : ys = markL mkWrite 2 l.length b := Filled.done (by rw [markL_length]; exact hI)
      exact Ev.some (by rw [ha, hd])
  exact h
theorem evb_markLockS (l : List S150) (b : Int) (hb0 : 0 ≤ b) (hb : b ≤ 9007199254740992) (hl : l.length ≤ 4194304) : Ev (fun k => laws_markLockS.f k l b) (b + 2 * (l.length : Int), markL mkLock 2 l.length b) := by
  have h : Ev (fun k => laws_markLockS.l0 k l b ((0 : Nat) : Int)) (b + 2 * (l.length : Int), markL mkLock 2 l.length b) := by
    refine ev_up (σ := List S150 × Int) (fun s i k => laws_markLockS.l0 k s.1 s.2 (i : Int)) l.length (fun s i => Filled (markL mkLock 2 l.length b) s.1 i ∧ s.2 = b + 2 * (i : Int)) (fun _ _ => (b + 2 * (l.length : Int), markL mkLock 2 l.length b)) ?_ ?_ (l, b) 0 (Nat.zero_le _) ⟨Filled.start _ _ (by simp [markL_length]), by simp⟩
    · rintro ⟨ys, a⟩ i hi ⟨hI, ha⟩ ih
      apply Ev.succ
      dsimp only at ha hI ⊢
      have hly : ys.length = l.length := by have := hI.1; simpa [markL_length] using this
      have h1 : (i : Int) < (ys.length : Int) := by omega
      have hiy : i < ys.length := by omega
      have w0 : wrap64 (a + 1) = a + 1 := wrap_in (by omega) (by omega)
      have w1 : wrap64 (a + 2) = a + 2 := wrap_in (by omega) (by omega)
      have hr := ih (ys.set i (mkLock a), a + 2) ⟨hI.step (by simpa [markL_length] using hi) (by rw [markL_get, ha]; rfl), by dsimp only; omega⟩
      dsimp only at hr
      simp only [laws_markLockS.l0, Option.bind_some, h1, Int.natCast_nonneg, if_true, Int.toNat_natCast, wrap_up hi (by omega), w0, w1, show a + 1 + 1 = a + 2 from by omega]
      simpa [mkLock, rd_T150, hiy] using hr
    · rintro ⟨ys, a⟩ ⟨hI, ha⟩
      apply Ev.succ
      dsimp only at ha hI ⊢
      have hly : ys.length = l.length := by have := hI.1; simpa [markL_length] using this
      have h1 : ¬ ((l.length : Int) < (ys.length : Int)) := by omega
      simp only [laws_markLockS.l0, h1, if_false]
      have hd : ys = markL mkLock 2 l.length b := Filled.done (by rw [markL_length]; exact hI)
      exact Ev.some (by rw [ha, hd])
  exact h
theorem evb_markWaitS (l : List S36) (b : Int) (hb0 : 0 ≤ b) (hb : b ≤ 9007199254740992) (hl : l.length ≤ 4194304) : Ev (fun k => laws_markWaitS.f k l b) (b + 2 * (l.length : Int), markL mkWait 2 l.length b) := by
  have h : Ev (fun k => laws_markWaitS.l0 k l b ((0 : Nat) : Int)) (b + 2 * (l.length : Int), markL mkWait 2 l.length b) := by
    refine ev_up (σ := List S36 × Int) (fun s i k => laws_markWaitS.l0 k s.1 s.2 (i : Int)) l.length (fun s i => Filled (markL mkWait 2 l.length b) s.1 i ∧ s.2 = b + 2 * (i : Int)) (fun _ _ => (b + 2 * (l.length : Int), markL mkWait 2 l.length b)) ?_ ?_ (l, b) 0 (Nat.zero_le _) ⟨Filled.start _ _ (by simp [markL_length]), by simp⟩
    · rintro ⟨ys, a⟩ i hi ⟨hI, ha⟩ ih
      apply Ev.succ
      dsimp only at ha hI ⊢
      have hly : ys.length = l.length := by have := hI.1; simpa [markL_length] using this
      have h1 : (i : Int) < (ys.length : Int) := by omega
      have hiy : i < ys.length := by omega
      have w0 : wrap64 (a + 1) = a + 1 := wrap_in (by omega) (by omega)
      have w1 : wrap64 (a + 2) = a + 2 := wrap_in (by omega) (by omega)
      have hr := ih (ys.set i (mkWait a), a + 2) ⟨hI.step (by simpa [markL_length] using hi) (by rw [markL_get, ha]; rfl), by dsimp only; omega⟩
      dsimp only at hr
      simp only [laws_markWaitS.l0, Option.bind_some, h1, Int.natCast_nonneg, if_true, Int.toNat_natCast, wrap_up hi (by omega), w0, w1, show a + 1 + 1 = a + 2 from by omega]
      simpa [mkWait, rd_T36, hiy] using hr
    · rintro ⟨ys, a⟩ ⟨hI, ha⟩
      apply Ev.succ
      dsimp only at ha hI ⊢
      have hly : ys.length = l.length := by have := hI.1; simpa [markL_length] using this
      have h1 : ¬ ((l.length : Int) < (ys.length : Int)) := by omega
      simp only [laws_markWaitS.l0, h1, if_false]
      have hd : ys = markL mkWait 2 l.length b := Filled.done (by rw [markL_length]; exact hI)
      exact Ev.some (by rw [ha, hd])
  exact h
theorem evb_markVersionS (l : List S76) (b : Int) (hb0 : 0 ≤ b) (hb : b ≤ 9007199254740992) (hl : l.length ≤ 4194304) : Ev (fun k => laws_markVersionS.f k l b) (b + 5 * (l.length : Int), markL mkVersion 5 l.length b) := by
  have h : Ev (fun k => laws_markVersionS.l0 k l b ((0 : Nat) : Int)) (b + 5 * (l.length : Int), markL mkVersion 5 l.length b) := by
    refine ev_up (σ := List S76 × Int) (fun s i k => laws_markVersionS.l0 k s.1 s.2 (i : Int)) l.length (fun s i => Filled (markL mkVersion 5 l.length b) s.1 i ∧ s.2 = b + 5 * (i : Int)) (fun _ _ => (b + 5 * (l.length : Int), markL mkVersion 5 l.length b)) ?_ ?_ (l, b) 0 (Nat.zero_le _) ⟨Filled.start _ _ (by simp [markL_length]), by simp⟩
    · rintro ⟨ys, a⟩ i hi ⟨hI, ha⟩ ih
      apply Ev.succ
      dsimp only at ha hI ⊢
      have hly : ys.length = l.length := by have := hI.1; simpa [markL_length] using this
      have h1 : (i : Int) < (ys.length : Int) := by omega
      have hiy : i < ys.length := by omega
      have w0 : wrap64 (a + 1) = a + 1 := wrap_in (by omega) (by omega)
      have w1 : wrap64 (a + 2) = a + 2 := wrap_in (by omega) (by omega)
      have w2 : wrap64 (a + 3) = a + 3 := wrap_in (by omega) (by omega)
      have w3 : wrap64 (a + 4) = a + 4 := wrap_in (by omega) (by omega)
      have w4 : wrap64 (a + 5) = a + 5 := wrap_in (by omega) (by omega)
      have hr := ih (ys.set i (mkVersion a), a + 5) ⟨hI.step (by simpa [markL_length] using hi) (by rw [markL_get, ha]; rfl), by dsimp only; omega⟩
      dsimp only at hr
      simp only [laws_markVersionS.l0, Option.bind_some, h1, Int.natCast_nonneg, if_true, Int.toNat_natCast, wrap_up hi (by omega), w0, w1, w2, w3, w4, show a + 1 + 1 = a + 2 from by omega, show a + 2 + 1 = a + 3 from by omega, show a + 3 + 1 = a + 4 from by omega, show a + 4 + 1 = a + 5 from by omega]
      simpa [mkVersion, rd_T76, hiy] using hr
    · rintro ⟨ys, a⟩ ⟨hI, ha⟩
      apply Ev.succ
      dsimp only at ha hI ⊢
      have hly : ys.length = l.length := by have := hI.1; simpa [markL_length] using this
      have h1 : ¬ ((l.length : Int) < (ys.length : Int)) := by omega
      simp only [laws_markVersionS.l0, h1, if_false]
      have hd : ys = markL mkVersion 5 l.length b := Filled.done (by rw [markL_length]; exact hI)
      exact Ev.some (by rw [ha, hd])
  exact h
theorem ev_markVersionSS (l : List (List S76)) (hl : l.length ≤ 1048576) (he : ∀ e ∈ l, e.length ≤ 1048576) : ∃ r, Ev (fun k => laws_markVersionSS.f k l 1) r ∧ (1 ≤ r ∧ r ≤ 1 + 5242880 * (l.length : Int)) := by
  show ∃ r, Ev (fun k => laws_markVersionSS.l0 k l 1 ((0 : Nat) : Int)) r ∧ (1 ≤ r ∧ r ≤ 1 + 5242880 * (l.length : Int))
  refine ev_to (σ := List (List S76) × Int) (fun s i k => laws_markVersionSS.l0 k s.1 s.2 (i : Int)) l.length (fun s i => s.1.length = l.length ∧ (∀ e ∈ s.1, e.length ≤ 1048576) ∧ 1 ≤ s.2 ∧ s.2 ≤ 1 + 5242880 * (i : Int)) (fun r => 1 ≤ r ∧ r ≤ 1 + 5242880 * (l.length : Int)) ?_ ?_ (l, 1) 0 (Nat.zero_le _) ⟨rfl, he, by dsimp only; omega, by dsimp only; omega⟩
  · rintro ⟨xs, a⟩ i hi ⟨hlen, hle, ha0, ha1⟩ ih
    dsimp only at hlen hle ha0 ha1 ⊢
    have hix : i < xs.length := by omega
    have h1 : (i : Int) < (xs.length : Int) := by omega
    have hg : xs.getD i [] = xs[i] := getD_lt xs i [] hix
    have hel := hle _ (List.getElem_mem hix)
    have em := evb_markVersionS xs[i] a (by omega) (by omega) (by omega)
    obtain ⟨r, h, hR⟩ := ih (xs.set i (markL mkVersion 5 xs[i].length a), a + 5 * (xs[i].length : Int)) ⟨by dsimp only; rw [List.length_set]; exact hlen, fun e hm => by
      rcases List.mem_or_eq_of_mem_set hm with hm | rfl
      · exact hle e hm
      · rw [markL_length]; exact hel, by dsimp only; omega, by dsimp only; omega⟩
    refine ⟨r, Ev.succ ?_, hR⟩
    simp only [laws_markVersionSS.l0, h1, Int.natCast_nonneg, if_true, Int.toNat_natCast, hg, wrap_up hix (by omega)]
    exact Ev.bind em h
  · rintro ⟨xs, a⟩ ⟨hlen, hle, ha0, ha1⟩
    dsimp only at hlen hle ha0 ha1 ⊢
    refine ⟨a, Ev.succ ?_, ha0, ha1⟩
    have h1 : ¬ (l.length : Int) < (xs.length : Int) := by omega
    simp only [laws_markVersionSS.l0, h1, if_false]; exact Ev.now _
theorem ev_markTransactionS (l : List S68) (b : Int) (hb0 : 1 ≤ b) (hb : b ≤ 1 + 5242880 * 1048576) (hl : l.length ≤ 1048576) (he : ∀ e ∈ l, e.f7.length ≤ 1048576 ∧ e.f8.length ≤ 1048576) : ∃ r, Ev (fun k => laws_markTransactionS.f k l b) r ∧ (1 ≤ r ∧ r ≤ b + 8388608 * (l.length : Int)) := by
  show ∃ r, Ev (fun k => laws_markTransactionS.l0 k l b ((0 : Nat) : Int)) r ∧ (1 ≤ r ∧ r ≤ b + 8388608 * (l.length : Int))
  refine ev_to (σ := List S68 × Int) (fun s i k => laws_markTransactionS.l0 k s.1 s.2 (i : Int)) l.length (fun s i => s.1.length = l.length ∧ (∀ e ∈ s.1, e.f7.length ≤ 1048576 ∧ e.f8.length ≤ 1048576) ∧ 1 ≤ s.2 ∧ s.2 ≤ b + 8388608 * (i : Int)) (fun r => 1 ≤ r ∧ r ≤ b + 8388608 * (l.length : Int)) ?_ ?_ (l, b) 0 (Nat.zero_le _) ⟨rfl, he, by dsimp only; omega, by dsimp only; omega⟩
  · rintro ⟨xs, a⟩ i hi ⟨hlen, hle, ha0, ha1⟩ ih
    dsimp only at hlen hle ha0 ha1 ⊢
    have hix : i < xs.length := by omega
    have h1 : (i : Int) < (xs.length : Int) := by omega
    have hg : rd_T68 xs (i : Int) = xs[i] := by simp [rd_T68, hix]
    obtain ⟨hr, hw⟩ := hle _ (List.getElem_mem hix)
    have w1 : wrap64 (a + 1) = a + 1 := wrap_in (by omega) (by omega)
    have w2 : wrap64 (a + 2) = a + 2 := wrap_in (by omega) (by omega)
    have w3 : wrap64 (a + 3) = a + 3 := wrap_in (by omega) (by omega)
    have w4 : wrap64 (a + 4) = a + 4 := wrap_in (by omega) (by omega)
    have w5 : wrap64 (a + 5) = a + 5 := wrap_in (by omega) (by omega)
    have w6 : wrap64 (a + 6) = a + 6 := wrap_in (by omega) (by omega)
    have w7 : wrap64 (a + 7) = a + 7 := wrap_in (by omega) (by omega)
    have e7 := evb_markReadMarkS xs[i].f7 (a + 7) (by omega) (by omega) (by omega)
    have e8 := evb_markWriteS xs[i].f8 (a + 7 + 2 * (xs[i].f7.length : Int)) (by omega) (by omega) (by omega)
    obtain ⟨r, h, hR⟩ := ih (xs.set i ⟨a, a + 1, a + 2, a + 3, a + 4, a + 5, a + 6, markL mkReadMark 2 xs[i].f7.length (a + 7), markL mkWrite 2 xs[i].f8.length (a + 7 + 2 * (xs[i].f7.length : Int))⟩, a + 7 + 2 * (xs[i].f7.length : Int) + 2 * (xs[i].f8.length : Int)) ⟨by dsimp only; rw [List.length_set]; exact hlen, fun e hm => by
      rcases List.mem_or_eq_of_mem_set hm with hm | rfl
      · exact hle e hm
      · dsimp only; rw [markL_length, markL_length]; exact ⟨hr, hw⟩, by dsimp only; omega, by dsimp only; omega⟩
    refine ⟨r, Ev.succ ?_, hR⟩
    simp only [laws_markTransactionS.l0, h1, Int.natCast_nonneg, if_true, Int.toNat_natCast, hg, wrap_up hix (by omega), w1, w2, w3, w4, w5, w6, w7, show a + 1 + 1 = a + 2 from by omega, show a + 2 + 1 = a + 3 from by omega, show a + 3 + 1 = a + 4 from by omega, show a + 4 + 1 = a + 5 from by omega, show a + 5 + 1 = a + 6 from by omega, show a + 6 + 1 = a + 7 from by omega]
    exact Ev.bind e7 (Ev.bind e8 h)
  · rintro ⟨xs, a⟩ ⟨hlen, hle, ha0, ha1⟩
    dsimp only at hlen hle ha0 ha1 ⊢
    refine ⟨a, Ev.succ ?_, ha0, ha1⟩
    have h1 : ¬ (l.length : Int) < (xs.length : Int) := by omega
    simp only [laws_markTransactionS.l0, h1, if_false]; exact Ev.now _
theorem ev_markEngine (c : Bool) (vs : List (List S76)) (l : List S68) (ls : List S150) (ws : List S36) (st : Int) (hvl : vs.length ≤ 1048576 ∧ ∀ e ∈ vs, e.length ≤ 1048576) (htl : l.length ≤ 1048576 ∧ ∀ e ∈ l, e.f7.length ≤ 1048576 ∧ e.f8.length ≤ 1048576) (hll : ls.length ≤ 1048576) (hwl : ws.length ≤ 1048576) : ∃ r, Ev (fun k => laws_markEngine.f k c vs l ls ws st 1) r ∧ 0 ≤ r := by
  obtain ⟨r1, e1, a1, b1⟩ := ev_markVersionSS vs hvl.1 hvl.2
  obtain ⟨r2, e2, a2, b2⟩ := ev_markTransactionS l r1 (by omega) (by have := hvl.1; omega) htl.1 htl.2
  have e3 := evb_markLockS ls r2 (by omega) (by have := hvl.1; have := htl.1; omega) (by omega)
  have e4 := evb_markWaitS ws (r2 + 2 * (ls.length : Int)) (by omega) (by have := hvl.1; have := htl.1; omega) (by omega)
  refine ⟨r2 + 2 * (ls.length : Int) + 2 * (ws.length : Int), ?_, by omega⟩
  unfold laws_markEngine.f
  exact Ev.bind e1 (Ev.bind e2 (Ev.bind e3 (Ev.bind e4 (Ev.now _))))
theorem sz_en (c : Bool) (vs : List (List S207)) (l : List S60) (ls : List S160) (ws : List S183) (st : Int) (b : Int) (hb0 : 0 ≤ b) (hb1 : b ≤ 1048576) (hv : vs.length ≤ 9223372036854775807 ∧ ∀ e ∈ vs, e.length ≤ 9223372036854775807) (hl : l.length ≤ 9223372036854775807 ∧ ∀ e ∈ l, lim_Transaction e) (hls : ls.length ≤ 9223372036854775807) (hws : ws.length ≤ 9223372036854775807) : ∃ r, Ev (fun k => laws_szEngine.f k c vs l ls ws st b) r ∧ r ≤ b ∧ (0 ≤ r → (vs.length ≤ 1048576 ∧ ∀ e ∈ vs, e.length ≤ 1048576) ∧ (l.length ≤ 1048576 ∧ ∀ e ∈ l, fit_Transaction e) ∧ ls.length ≤ 1048576 ∧ ws.length ≤ 1048576) := by
  unfold laws_szEngine.f laws_szStore.f
  obtain ⟨r0, e0, u0, f0⟩ := sz_VersionSS vs b (by omega) (by omega) hv.1 hv.2
  by_cases c0 : r0 < 0
  · refine ⟨-1, Ev.bind (a := -1) (Ev.bind e0 (by simp only [c0, if_true]; exact Ev.now _)) (by simp only [show (-1 : Int) < 0 from by decide, if_true]; exact Ev.now _), by omega, fun h => absurd h (by omega)⟩
  have b0 : Ev (fun k => (laws_szVersionSS.f k vs b).bind fun t104 => if t104 < 0 then some (-1) else some t104) r0 := Ev.bind e0 (by simp only [c0, if_false]; exact Ev.now _)
  obtain ⟨r1, e1, u1, f1⟩ := sz_TransactionS l r0 (by omega) (by omega) hl.1 hl.2
  by_cases c1 : r1 < 0
  · exact ⟨-1, Ev.bind b0 (by simp only [c0, if_false]; exact Ev.bind e1 (by simp only [c1, if_true]; exact Ev.now _)), by omega, fun h => absurd h (by omega)⟩
  obtain ⟨r2, e2, u2, f2⟩ := szx_Lock ls r1 (by omega) (by omega) hls
  by_cases c2 : r2 < 0
  · exact ⟨-1, Ev.bind b0 (by simp only [c0, if_false]; exact Ev.bind e1 (by simp only [c1, if_false]; exact Ev.bind e2 (by simp only [c2, if_true]; exact Ev.now _))), by omega, fun h => absurd h (by omega)⟩
  obtain ⟨r3, e3, u3, f3⟩ := szx_Wait ws r2 (by omega) (by omega) hws
  by_cases c3 : r3 < 0
  · exact ⟨-1, Ev.bind b0 (by simp only [c0, if_false]; exact Ev.bind e1 (by simp only [c1, if_false]; exact Ev.bind e2 (by simp only [c2, if_false]; exact Ev.bind e3 (by simp only [c3, if_true]; exact Ev.now _)))), by omega, fun h => absurd h (by omega)⟩
  exact ⟨r3, Ev.bind b0 (by simp only [c0, if_false]; exact Ev.bind e1 (by simp only [c1, if_false]; exact Ev.bind e2 (by simp only [c2, if_false]; exact Ev.bind e3 (by simp only [c3, if_false]; exact Ev.now _)))), by omega, fun _ => ⟨f0 (by omega), f1 (by omega), f2 (by omega), f3 (by omega)⟩⟩
theorem to_en (c : Bool) (vs : List (List S207)) (l : List S60) (ls : List S160) (ws : List S183) (st : Int) (hvl : vs.length ≤ 1048576 ∧ ∀ e ∈ vs, e.length ≤ 1048576) (htl : l.length ≤ 1048576 ∧ ∀ e ∈ l, fit_Transaction e) (hll : ls.length ≤ 1048576) (hwl : ws.length ≤ 1048576) : Ev (fun k => laws_toEngine.f k c vs l ls ws st) (c, vs.map (List.map cvVersion), l.map cvTransaction, ls.map cvLock, ws.map cvWait, st) := by
  unfold laws_toEngine.f laws_toStore.f
  exact Ev.bind (Ev.bind (ev_toVersionSS vs hvl) (Ev.now _)) (Ev.bind (ev_toTransactionS l htl) (Ev.bind (ev_toLockS ls hll) (Ev.bind (ev_toWaitS ws hwl) (Ev.now _))))
theorem eq_en (c : Bool) (vs : List (List S207)) (l : List S60) (ls : List S160) (ws : List S183) (st : Int) (hvl : vs.length ≤ 1048576 ∧ ∀ e ∈ vs, e.length ≤ 1048576) (htl : l.length ≤ 1048576 ∧ ∀ e ∈ l, fit_Transaction e) (hll : ls.length ≤ 1048576) (hwl : ws.length ≤ 1048576) : Ev (fun k => laws_eqEngine.f k c (vs.map (List.map cvVersion)) (l.map cvTransaction) (ls.map cvLock) (ws.map cvWait) st c (vs.map (List.map cvVersion)) (l.map cvTransaction) (ls.map cvLock) (ws.map cvWait) st) true := by
  unfold laws_eqEngine.f laws_eqStore.f
  simp only [bne_self_eq_false, Bool.false_eq_true, if_false, if_true]
  refine Ev.bind (a := true) (Ev.bind (ev_eqVersionSS _ ⟨by simpa using hvl.1, fun e he => ?_⟩) (by simp only [if_true]; exact Ev.now _)) ?_
  · obtain ⟨x, hx, rfl⟩ := List.mem_map.mp he
    simpa using hvl.2 x hx
  simp only [if_true]
  exact Ev.bind (ev_eqTransactionS _ (fitds_cvTransaction l htl)) (by simp only [if_true]; exact Ev.bind (ev_eqLockS _ (by simp; omega)) (by simp only [if_true]; exact Ev.bind (ev_eqWaitS _ (by simp; omega)) (by simp only [if_true]; exact Ev.now _)))
theorem tx_lim {l : List S60} (hl : (okRow PFnExactTransactionIDs.g60) l) : l.length ≤ 9223372036854775807 ∧ ∀ e ∈ l, lim_Transaction e := ⟨by have := hl.1; simp only [maxLen] at this; omega, fun x hx => by
  have h := (hl.2 x hx).2.2.2.2.2.2.2; have := h.1.1; have := h.2.1; simp only [maxLen] at *; unfold lim_Transaction; omega⟩
theorem st_lim {vs : List (List S207)} (hv : (okRow (okRow PFnExactTransactionIDs.g207)) vs) : vs.length ≤ 9223372036854775807 ∧ ∀ e ∈ vs, e.length ≤ 9223372036854775807 := ⟨by have := hv.1; simp only [maxLen] at this; omega, fun x hx => by have := (hv.2 x hx).1; simp only [maxLen] at this; omega⟩
theorem FnExactTransactionIDs : ∀ (x0_0 : Bool) (x0_1_0 : List (List (S207))) (x0_2 : List (S60)) (x0_3 : List (S160)) (x0_4 : List (S183)) (x0_5 : Int) (x1 : Int), okBool x0_0 → (okRow (okRow PFnExactTransactionIDs.g207)) x0_1_0 → (okRow PFnExactTransactionIDs.g60) x0_2 → (okRow PFnExactTransactionIDs.g160) x0_3 → (okRow PFnExactTransactionIDs.g183) x0_4 → (okInt .i64) x0_5 → (okInt .i64) x1 → ∃ k, laws_FnExactTransactionIDs.f k x0_0 x0_1_0 x0_2 x0_3 x0_4 x0_5 x1 = some true := by
  intro c vs l ls ws st a _ hv hl hls hws _ _
  apply Ev.rounds
  unfold laws_FnExactTransactionIDs.f
  obtain ⟨r, e, hr, hf⟩ := sz_en c vs l ls ws st 1048576 (by omega) (by omega) (st_lim hv) (tx_lim hl) (by have := hls.1; simp only [maxLen] at this; omega) (by have := hws.1; simp only [maxLen] at this; omega)
  refine Ev.bind e ?_
  by_cases h : r < 0
  · simp only [h, if_true]; exact Ev.now _
  obtain ⟨h1, h2, h3, h4⟩ := hf (by omega)
  simp only [h, if_false]
  have ta := to_en c vs l ls ws st h1 h2 h3 h4
  obtain ⟨v, s1, i1, hv1⟩ := both_TransactionIDs c (vs.map (List.map cvVersion)) (l.map cvTransaction) (ls.map cvLock) (ws.map cvWait) st a (by simpa using h2.1)
  have hvl : v.length ≤ 1048576 := by have := h2.1; simp at hv1; omega
  obtain ⟨m, em, hm⟩ := ev_markEngine c (vs.map (List.map cvVersion)) (l.map cvTransaction) (ls.map cvLock) (ws.map cvWait) st ⟨by simpa using h1.1, fun e he => by
    obtain ⟨x, hx, rfl⟩ := List.mem_map.mp he
    simpa using h1.2 x hx⟩ ⟨by simpa using h2.1, fun e he => by
    have := (fitds_cvTransaction l h2).2 e he
    unfold fitd_Transaction at this; omega⟩ (by simpa using h3) (by simpa using h4)
  refine Ev.bind ta (Ev.bind s1 (Ev.bind ta (Ev.bind i1 (Ev.bind (ev_eqIntS v (by omega)) ?_))))
  simp only [if_true]
  refine Ev.bind ta (Ev.bind (eq_en c vs l ls ws st h1 h2 h3 h4) ?_)
  simp only [if_true]
  refine Ev.bind em ?_
  simp only [show ¬ m < 0 from by omega, if_false]
  refine Ev.bind (ev_eqIntS v (by omega)) ?_
  simp only [Bool.not_true]
  apply Ev.succ
  simp only [laws_FnExactTransactionIDs.j0, Bool.false_eq_true, if_false]
  refine Ev.bind (ev_markIntS v (by omega)) (Ev.bind (ev_heldIntS _ (by omega)) ?_)
  have hy : ¬ ((1 : Int) + 1 * (v.length : Int) < 0) := by omega
  simp only [hy, if_false, if_true]
  refine Ev.bind ta (Ev.bind i1 (Ev.bind (ev_eqIntS v (by omega)) ?_))
  simp only [if_true]
  refine Ev.bind (ev_heldIntS _ (by omega)) ?_
  simp only [hy, if_false, if_true]
  exact Ev.some rfl

end Go.Proofs.Ytakpkmlbklahhaa.Pure
