/- The plain statement of FnExactEqualEngines: both functions compare two engines alike, and leave them as they were. Condition: the rows' lengths are at most maxLen. -/
import Derived.Test.YtakpkmlbklahhaaGoodFnExactEqualEngines
import Derived.Test.YtakpkmlbklahhaaPlainV
namespace Go.Proofs.Ytakpkmlbklahhaa.Pure
open Go.RowKit Go.Proofs.Ytakpkmlbklahhaa.PFnExactEqualEngines Go.Proofs.YtakpkmlbklahhaaW.PrintWords Go.Proofs.YtakpkmlbklahhaaW.PrintLast Go.Proofs.Ytakpkmlbklahhaa.OpenK Go.Proofs.Ytakpkmlbklahhaa.Plain
set_option linter.unusedVariables false
set_option linter.unusedSimpArgs false

theorem sz_LockS (l : List S160) (a : Int) (h0 : 0 ≤ a) (h1 : a ≤ 1048576) (hl : l.length ≤ 9223372036854775807) : laws_szLockS.f l a = some (if a < l.length then -1 else a - l.length) := by
  unfold laws_szLockS.f
  rw [wrap_in (by omega) (by omega)]
  by_cases h : a < l.length
  · rw [if_pos (by omega), if_pos h]
  · rw [if_neg (by omega), if_neg h]

theorem szx_Lock (l : List S160) (a : Int) (h0 : 0 ≤ a) (h1 : a ≤ 1048576) (hl : l.length ≤ 9223372036854775807) : ∃ r, Ev (fun _ => laws_szLockS.f l a) r ∧ r ≤ a ∧ (0 ≤ r → l.length ≤ 1048576) := by
  rw [sz_LockS l a h0 h1 hl]
  refine ⟨_, Ev.now _, ?_, ?_⟩ <;> split <;> omega

theorem sz_ReadMarkS (l : List S189) (a : Int) (h0 : 0 ≤ a) (h1 : a ≤ 1048576) (hl : l.length ≤ 9223372036854775807) : laws_szReadMarkS.f l a = some (if a < l.length then -1 else a - l.length) := by
  unfold laws_szReadMarkS.f
  rw [wrap_in (by omega) (by omega)]
  by_cases h : a < l.length
  · rw [if_pos (by omega), if_pos h]
  · rw [if_neg (by omega), if_neg h]

theorem szx_ReadMark (l : List S189) (a : Int) (h0 : 0 ≤ a) (h1 : a ≤ 1048576) (hl : l.length ≤ 9223372036854775807) : ∃ r, Ev (fun _ => laws_szReadMarkS.f l a) r ∧ r ≤ a ∧ (0 ≤ r → l.length ≤ 1048576) := by
  rw [sz_ReadMarkS l a h0 h1 hl]
  refine ⟨_, Ev.now _, ?_, ?_⟩ <;> split <;> omega

theorem sz_VersionS (l : List S207) (a : Int) (h0 : 0 ≤ a) (h1 : a ≤ 1048576) (hl : l.length ≤ 9223372036854775807) : laws_szVersionS.f l a = some (if a < l.length then -1 else a - l.length) := by
  unfold laws_szVersionS.f
  rw [wrap_in (by omega) (by omega)]
  by_cases h : a < l.length
  · rw [if_pos (by omega), if_pos h]
  · rw [if_neg (by omega), if_neg h]

theorem szx_Version (l : List S207) (a : Int) (h0 : 0 ≤ a) (h1 : a ≤ 1048576) (hl : l.length ≤ 9223372036854775807) : ∃ r, Ev (fun _ => laws_szVersionS.f l a) r ∧ r ≤ a ∧ (0 ≤ r → l.length ≤ 1048576) := by
  rw [sz_VersionS l a h0 h1 hl]
  refine ⟨_, Ev.now _, ?_, ?_⟩ <;> split <;> omega

theorem sz_WaitS (l : List S183) (a : Int) (h0 : 0 ≤ a) (h1 : a ≤ 1048576) (hl : l.length ≤ 9223372036854775807) : laws_szWaitS.f l a = some (if a < l.length then -1 else a - l.length) := by
  unfold laws_szWaitS.f
  rw [wrap_in (by omega) (by omega)]
  by_cases h : a < l.length
  · rw [if_pos (by omega), if_pos h]
  · rw [if_neg (by omega), if_neg h]

theorem szx_Wait (l : List S183) (a : Int) (h0 : 0 ≤ a) (h1 : a ≤ 1048576) (hl : l.length ≤ 9223372036854775807) : ∃ r, Ev (fun _ => laws_szWaitS.f l a) r ∧ r ≤ a ∧ (0 ≤ r → l.length ≤ 1048576) := by
  rw [sz_WaitS l a h0 h1 hl]
  refine ⟨_, Ev.now _, ?_, ?_⟩ <;> split <;> omega

theorem sz_WriteS (l : List S191) (a : Int) (h0 : 0 ≤ a) (h1 : a ≤ 1048576) (hl : l.length ≤ 9223372036854775807) : laws_szWriteS.f l a = some (if a < l.length then -1 else a - l.length) := by
  unfold laws_szWriteS.f
  rw [wrap_in (by omega) (by omega)]
  by_cases h : a < l.length
  · rw [if_pos (by omega), if_pos h]
  · rw [if_neg (by omega), if_neg h]

theorem szx_Write (l : List S191) (a : Int) (h0 : 0 ≤ a) (h1 : a ≤ 1048576) (hl : l.length ≤ 9223372036854775807) : ∃ r, Ev (fun _ => laws_szWriteS.f l a) r ∧ r ≤ a ∧ (0 ≤ r → l.length ≤ 1048576) := by
  rw [sz_WriteS l a h0 h1 hl]
  refine ⟨_, Ev.now _, ?_, ?_⟩ <;> split <;> omega

def cvLock (x : S160) : S150 := ⟨x.f0, x.f1⟩
theorem ev_toLockS (l : List S160) (hl : l.length ≤ 1048576) : Ev (fun k => laws_toLockS.f k l) (l.map cvLock) := by
  have h : Ev (fun k => laws_toLockS.l0 k l (List.replicate l.length z150) ((0 : Nat) : Int)) (l.map cvLock) := by
    refine ev_up (σ := List S150) (fun ys i k => laws_toLockS.l0 k l ys (i : Int)) l.length (fun ys i => Filled (l.map cvLock) ys i) (fun _ _ => l.map cvLock) ?_ ?_ (List.replicate l.length z150) 0 (Nat.zero_le _) (Filled.start _ _ (by simp))
    · intro ys i hi hI ih
      apply Ev.succ
      have h1 : (i : Int) < (l.length : Int) := by omega
      have h2 : (i : Int) < (ys.length : Int) := by have := hI.1; simp at this; omega
      simp only [laws_toLockS.l0, laws_toLock.f, Option.bind_some, h1, h2, Int.natCast_nonneg, if_true, Int.toNat_natCast, wrap_up hi (by omega)]
      exact ih _ (hI.step (by simpa using hi) (by simp [cvLock, rd_T160, hi]))
    · intro ys hI
      apply Ev.succ
      simp only [laws_toLockS.l0, Int.lt_irrefl, if_false]
      exact Ev.some (Filled.done (by simpa using hI))
  unfold laws_toLockS.f
  have h3 : ((l.length : Int) : Int).toNat ≤ 17592186044416 := by omega
  simp only [Int.natCast_nonneg, if_true, h3]
  simpa using h

def cvReadMark (x : S189) : S165 := ⟨x.f0, x.f1⟩
theorem ev_toReadMarkS (l : List S189) (hl : l.length ≤ 1048576) : Ev (fun k => laws_toReadMarkS.f k l) (l.map cvReadMark) := by
  have h : Ev (fun k => laws_toReadMarkS.l0 k l (List.replicate l.length z165) ((0 : Nat) : Int)) (l.map cvReadMark) := by
    refine ev_up (σ := List S165) (fun ys i k => laws_toReadMarkS.l0 k l ys (i : Int)) l.length (fun ys i => Filled (l.map cvReadMark) ys i) (fun _ _ => l.map cvReadMark) ?_ ?_ (List.replicate l.length z165) 0 (Nat.zero_le _) (Filled.start _ _ (by simp))
    · intro ys i hi hI ih
      apply Ev.succ
      have h1 : (i : Int) < (l.length : Int) := by omega
      have h2 : (i : Int) < (ys.length : Int) := by have := hI.1; simp at this; omega
      simp only [laws_toReadMarkS.l0, laws_toReadMark.f, Option.bind_some, h1, h2, Int.natCast_nonneg, if_true, Int.toNat_natCast, wrap_up hi (by omega)]
      exact ih _ (hI.step (by simpa using hi) (by simp [cvReadMark, rd_T189, hi]))
    · intro ys hI
      apply Ev.succ
      simp only [laws_toReadMarkS.l0, Int.lt_irrefl, if_false]
      exact Ev.some (Filled.done (by simpa using hI))
  unfold laws_toReadMarkS.f
  have h3 : ((l.length : Int) : Int).toNat ≤ 17592186044416 := by omega
  simp only [Int.natCast_nonneg, if_true, h3]
  simpa using h

def cvVersion (x : S207) : S76 := ⟨x.f0, x.f1, x.f2, x.f3, x.f4⟩
theorem ev_toVersionS (l : List S207) (hl : l.length ≤ 1048576) : Ev (fun k => laws_toVersionS.f k l) (l.map cvVersion) := by
  have h : Ev (fun k => laws_toVersionS.l0 k l (List.replicate l.length z76) ((0 : Nat) : Int)) (l.map cvVersion) := by
    refine ev_up (σ := List S76) (fun ys i k => laws_toVersionS.l0 k l ys (i : Int)) l.length (fun ys i => Filled (l.map cvVersion) ys i) (fun _ _ => l.map cvVersion) ?_ ?_ (List.replicate l.length z76) 0 (Nat.zero_le _) (Filled.start _ _ (by simp))
    · intro ys i hi hI ih
      apply Ev.succ
      have h1 : (i : Int) < (l.length : Int) := by omega
      have h2 : (i : Int) < (ys.length : Int) := by have := hI.1; simp at this; omega
      simp only [laws_toVersionS.l0, laws_toVersion.f, Option.bind_some, h1, h2, Int.natCast_nonneg, if_true, Int.toNat_natCast, wrap_up hi (by omega)]
      exact ih _ (hI.step (by simpa using hi) (by simp [cvVersion, rd_T207, hi]))
    · intro ys hI
      apply Ev.succ
      simp only [laws_toVersionS.l0, Int.lt_irrefl, if_false]
      exact Ev.some (Filled.done (by simpa using hI))
  unfold laws_toVersionS.f
  have h3 : ((l.length : Int) : Int).toNat ≤ 7036874417766 := by omega
  simp only [Int.natCast_nonneg, if_true, h3]
  simpa using h

def cvWait (x : S183) : S36 := ⟨x.f0, x.f1⟩
theorem ev_toWaitS (l : List S183) (hl : l.length ≤ 1048576) : Ev (fun k => laws_toWaitS.f k l) (l.map cvWait) := by
  have h : Ev (fun k => laws_toWaitS.l0 k l (List.replicate l.length z36) ((0 : Nat) : Int)) (l.map cvWait) := by
    refine ev_up (σ := List S36) (fun ys i k => laws_toWaitS.l0 k l ys (i : Int)) l.length (fun ys i => Filled (l.map cvWait) ys i) (fun _ _ => l.map cvWait) ?_ ?_ (List.replicate l.length z36) 0 (Nat.zero_le _) (Filled.start _ _ (by simp))
    · intro ys i hi hI ih
      apply Ev.succ
      have h1 : (i : Int) < (l.length : Int) := by omega
      have h2 : (i : Int) < (ys.length : Int) := by have := hI.1; simp at this; omega
      simp only [laws_toWaitS.l0, laws_toWait.f, Option.bind_some, h1, h2, Int.natCast_nonneg, if_true, Int.toNat_natCast, wrap_up hi (by omega)]
      exact ih _ (hI.step (by simpa using hi) (by simp [cvWait, rd_T183, hi]))
    · intro ys hI
      apply Ev.succ
      simp only [laws_toWaitS.l0, Int.lt_irrefl, if_false]
      exact Ev.some (Filled.done (by simpa using hI))
  unfold laws_toWaitS.f
  have h3 : ((l.length : Int) : Int).toNat ≤ 17592186044416 := by omega
  simp only [Int.natCast_nonneg, if_true, h3]
  simpa using h

def cvWrite (x : S191) : S133 := ⟨x.f0, x.f1⟩
theorem ev_toWriteS (l : List S191) (hl : l.length ≤ 1048576) : Ev (fun k => laws_toWriteS.f k l) (l.map cvWrite) := by
  have h : Ev (fun k => laws_toWriteS.l0 k l (List.replicate l.length z133) ((0 : Nat) : Int)) (l.map cvWrite) := by
    refine ev_up (σ := List S133) (fun ys i k => laws_toWriteS.l0 k l ys (i : Int)) l.length (fun ys i => Filled (l.map cvWrite) ys i) (fun _ _ => l.map cvWrite) ?_ ?_ (List.replicate l.length z133) 0 (Nat.zero_le _) (Filled.start _ _ (by simp))
    · intro ys i hi hI ih
      apply Ev.succ
      have h1 : (i : Int) < (l.length : Int) := by omega
      have h2 : (i : Int) < (ys.length : Int) := by have := hI.1; simp at this; omega
      simp only [laws_toWriteS.l0, laws_toWrite.f, Option.bind_some, h1, h2, Int.natCast_nonneg, if_true, Int.toNat_natCast, wrap_up hi (by omega)]
      exact ih _ (hI.step (by simpa using hi) (by simp [cvWrite, rd_T191, hi]))
    · intro ys hI
      apply Ev.succ
      simp only [laws_toWriteS.l0, Int.lt_irrefl, if_false]
      exact Ev.some (Filled.done (by simpa using hI))
  unfold laws_toWriteS.f
  have h3 : ((l.length : Int) : Int).toNat ≤ 17592186044416 := by omega
  simp only [Int.natCast_nonneg, if_true, h3]
  simpa using h

theorem ev_eqLockS (l : List S150) (hl : l.length ≤ 9223372036854775807) : Ev (fun k => laws_eqLockS.f k l l) true := by
  have h : Ev (fun k => laws_eqLockS.l0 k l l ((0 : Nat) : Int)) true := by
    refine ev_up (σ := Unit) (fun _ i k => laws_eqLockS.l0 k l l (i : Int)) l.length (fun _ _ => True) (fun _ _ => true) ?_ ?_ () 0 (Nat.zero_le _) trivial
    · intro ys i hi hI ih
      apply Ev.succ
      have h1 : (i : Int) < (l.length : Int) := by omega
      simp only [laws_eqLockS.l0, laws_eqLock.f, Option.bind_some, h1, Int.natCast_nonneg, if_true, wrap_up hi hl]
      exact ih () trivial
    · intro ys hI
      apply Ev.succ
      simp only [laws_eqLockS.l0, Int.lt_irrefl, if_false]
      exact Ev.now _
  unfold laws_eqLockS.f
  simp only [if_true]
  exact h

theorem ev_eqReadMarkS (l : List S165) (hl : l.length ≤ 9223372036854775807) : Ev (fun k => laws_eqReadMarkS.f k l l) true := by
  have h : Ev (fun k => laws_eqReadMarkS.l0 k l l ((0 : Nat) : Int)) true := by
    refine ev_up (σ := Unit) (fun _ i k => laws_eqReadMarkS.l0 k l l (i : Int)) l.length (fun _ _ => True) (fun _ _ => true) ?_ ?_ () 0 (Nat.zero_le _) trivial
    · intro ys i hi hI ih
      apply Ev.succ
      have h1 : (i : Int) < (l.length : Int) := by omega
      simp only [laws_eqReadMarkS.l0, laws_eqReadMark.f, Option.bind_some, h1, Int.natCast_nonneg, if_true, wrap_up hi hl]
      exact ih () trivial
    · intro ys hI
      apply Ev.succ
      simp only [laws_eqReadMarkS.l0, Int.lt_irrefl, if_false]
      exact Ev.now _
  unfold laws_eqReadMarkS.f
  simp only [if_true]
  exact h

theorem ev_eqVersionS (l : List S76) (hl : l.length ≤ 9223372036854775807) : Ev (fun k => laws_eqVersionS.f k l l) true := by
  have h : Ev (fun k => laws_eqVersionS.l0 k l l ((0 : Nat) : Int)) true := by
    refine ev_up (σ := Unit) (fun _ i k => laws_eqVersionS.l0 k l l (i : Int)) l.length (fun _ _ => True) (fun _ _ => true) ?_ ?_ () 0 (Nat.zero_le _) trivial
    · intro ys i hi hI ih
      apply Ev.succ
      have h1 : (i : Int) < (l.length : Int) := by omega
      simp only [laws_eqVersionS.l0, laws_eqVersion.f, Option.bind_some, h1, Int.natCast_nonneg, if_true, wrap_up hi hl]
      exact ih () trivial
    · intro ys hI
      apply Ev.succ
      simp only [laws_eqVersionS.l0, Int.lt_irrefl, if_false]
      exact Ev.now _
  unfold laws_eqVersionS.f
  simp only [if_true]
  exact h

theorem ev_eqWaitS (l : List S36) (hl : l.length ≤ 9223372036854775807) : Ev (fun k => laws_eqWaitS.f k l l) true := by
  have h : Ev (fun k => laws_eqWaitS.l0 k l l ((0 : Nat) : Int)) true := by
    refine ev_up (σ := Unit) (fun _ i k => laws_eqWaitS.l0 k l l (i : Int)) l.length (fun _ _ => True) (fun _ _ => true) ?_ ?_ () 0 (Nat.zero_le _) trivial
    · intro ys i hi hI ih
      apply Ev.succ
      have h1 : (i : Int) < (l.length : Int) := by omega
      simp only [laws_eqWaitS.l0, laws_eqWait.f, Option.bind_some, h1, Int.natCast_nonneg, if_true, wrap_up hi hl]
      exact ih () trivial
    · intro ys hI
      apply Ev.succ
      simp only [laws_eqWaitS.l0, Int.lt_irrefl, if_false]
      exact Ev.now _
  unfold laws_eqWaitS.f
  simp only [if_true]
  exact h

theorem ev_eqWriteS (l : List S133) (hl : l.length ≤ 9223372036854775807) : Ev (fun k => laws_eqWriteS.f k l l) true := by
  have h : Ev (fun k => laws_eqWriteS.l0 k l l ((0 : Nat) : Int)) true := by
    refine ev_up (σ := Unit) (fun _ i k => laws_eqWriteS.l0 k l l (i : Int)) l.length (fun _ _ => True) (fun _ _ => true) ?_ ?_ () 0 (Nat.zero_le _) trivial
    · intro ys i hi hI ih
      apply Ev.succ
      have h1 : (i : Int) < (l.length : Int) := by omega
      simp only [laws_eqWriteS.l0, laws_eqWrite.f, Option.bind_some, h1, Int.natCast_nonneg, if_true, wrap_up hi hl]
      exact ih () trivial
    · intro ys hI
      apply Ev.succ
      simp only [laws_eqWriteS.l0, Int.lt_irrefl, if_false]
      exact Ev.now _
  unfold laws_eqWriteS.f
  simp only [if_true]
  exact h

def fit_Transaction (x : S60) : Prop := x.f7.length ≤ 1048576 ∧ x.f8.length ≤ 1048576
def lim_Transaction (x : S60) : Prop := x.f7.length ≤ 9223372036854775807 ∧ x.f8.length ≤ 9223372036854775807
def fitd_Transaction (x : S68) : Prop := x.f7.length ≤ 1048576 ∧ x.f8.length ≤ 1048576
theorem sz_Transaction (x : S60) (a : Int) (h0 : 0 ≤ a) (h1 : a ≤ 1048576) (hg : lim_Transaction x) : ∃ r, Ev (fun k => laws_szTransaction.f x.f0 x.f1 x.f2 x.f3 x.f4 x.f5 x.f6 x.f7 x.f8 a) r ∧ r ≤ a ∧ (0 ≤ r → fit_Transaction x) := by
  unfold lim_Transaction at hg
  unfold laws_szTransaction.f fit_Transaction
  obtain ⟨r0, e0, u0, f0⟩ := szx_ReadMark x.f7 a h0 h1 hg.1
  by_cases c0 : r0 < 0
  · exact ⟨-1, Ev.bind e0 (by simp only [c0, if_true]; exact Ev.now _), by omega, fun h => absurd h (by omega)⟩
  obtain ⟨r1, e1, u1, f1⟩ := szx_Write x.f8 r0 (by omega) (by omega) hg.2
  by_cases c1 : r1 < 0
  · exact ⟨-1, Ev.bind e0 (by simp only [c0, if_false]; exact Ev.bind e1 (by simp only [c1, if_true]; exact Ev.now _)), by omega, fun h => absurd h (by omega)⟩
  exact ⟨r1, Ev.bind e0 (by simp only [c0, if_false]; exact Ev.bind e1 (by simp only [c1, if_false]; exact Ev.now _)), by omega, fun _ => ⟨f0 (by omega), f1 (by omega)⟩⟩

theorem sz_TransactionS (l : List S60) (a : Int) (h0 : 0 ≤ a) (h1 : a ≤ 1048576) (hl : l.length ≤ 9223372036854775807) (hg : ∀ e ∈ l, lim_Transaction e) : ∃ r, Ev (fun k => laws_szTransactionS.f k l a) r ∧ r ≤ a ∧ (0 ≤ r → (l.length ≤ 1048576 ∧ ∀ e ∈ l, fit_Transaction e)) := by
  unfold laws_szTransactionS.f
  rw [wrap_in (by omega) (by omega)]
  by_cases h : a - (l.length : Int) < 0
  · simp only [h, if_true]; exact ⟨-1, Ev.now _, by omega, fun h => absurd h (by omega)⟩
  simp only [h, if_false]
  refine ev_to (σ := Int) (fun s i k => laws_szTransactionS.l0 k l s (i : Int)) l.length (fun s i => 0 ≤ s ∧ s ≤ a ∧ ∀ j (hj : j < l.length), j < i → fit_Transaction l[j]) (fun r => r ≤ a ∧ (0 ≤ r → (l.length ≤ 1048576 ∧ ∀ e ∈ l, fit_Transaction e))) ?_ ?_ (a - (l.length : Int)) 0 (Nat.zero_le _) ⟨by omega, by omega, fun j hj h => absurd h (by omega)⟩
  · intro s i hi ⟨hs, hsa, hI⟩ ih
    have h2 : (i : Int) < (l.length : Int) := by omega
    have hrd : rd_T60 l (i : Int) = l[i] := by simp [rd_T60, hi]
    obtain ⟨r, e, hr, hf⟩ := sz_Transaction (rd_T60 l (i : Int)) s hs (by omega) (hg _ (by rw [hrd]; exact List.getElem_mem hi))
    by_cases c : r < 0
    · refine ⟨-1, Ev.succ ?_, by omega, fun h => absurd h (by omega)⟩
      simp only [laws_szTransactionS.l0, h2, Int.natCast_nonneg, if_true]
      exact Ev.bind e (by simp only [c, if_true]; exact Ev.now _)
    · obtain ⟨r', e', h'⟩ := ih r ⟨by omega, by omega, fun j hj hji => if hh : j < i then hI j hj hh else by obtain rfl : j = i := by omega
                                                                                                             rw [← hrd]; exact hf (by omega)⟩
      refine ⟨r', Ev.succ ?_, h'⟩
      simp only [laws_szTransactionS.l0, h2, Int.natCast_nonneg, if_true]
      exact Ev.bind e (by simp only [c, if_false, wrap_up hi (by omega)]; exact e')
  · intro s ⟨hs, hsa, hI⟩
    refine ⟨s, Ev.succ ?_, hsa, fun _ => ⟨by omega, fun e he => ?_⟩⟩
    · simp only [laws_szTransactionS.l0, Int.lt_irrefl, if_false]; exact Ev.now _
    · obtain ⟨j, hj, rfl⟩ := List.getElem_of_mem he
      exact hI j hj hj

def cvTransaction (x : S60) : S68 := ⟨x.f0, x.f1, x.f2, x.f3, x.f4, x.f5, x.f6, x.f7.map cvReadMark, x.f8.map cvWrite⟩
theorem fitd_cvTransaction (x : S60) (h : fit_Transaction x) : fitd_Transaction (cvTransaction x) := by
  simpa [fit_Transaction, fitd_Transaction, cvTransaction] using h

theorem ev_toTransaction (x : S60) (h : fit_Transaction x) : Ev (fun k => laws_toTransaction.f k x.f0 x.f1 x.f2 x.f3 x.f4 x.f5 x.f6 x.f7 x.f8) (x.f0, x.f1, x.f2, x.f3, x.f4, x.f5, x.f6, x.f7.map cvReadMark, x.f8.map cvWrite) := by
  unfold fit_Transaction at h
  unfold laws_toTransaction.f
  exact Ev.bind (ev_toReadMarkS x.f7 h.1) (Ev.bind (ev_toWriteS x.f8 h.2) (Ev.now _))

theorem ev_toTransactionS (l : List S60) (h : l.length ≤ 1048576 ∧ ∀ e ∈ l, fit_Transaction e) : Ev (fun k => laws_toTransactionS.f k l) (l.map cvTransaction) := by
  have hl := h.1
  have hh : Ev (fun k => laws_toTransactionS.l0 k l (List.replicate l.length z68) ((0 : Nat) : Int)) (l.map cvTransaction) := by
    refine ev_up (σ := List S68) (fun ys i k => laws_toTransactionS.l0 k l ys (i : Int)) l.length (fun ys i => Filled (l.map cvTransaction) ys i) (fun _ _ => l.map cvTransaction) ?_ ?_ (List.replicate l.length z68) 0 (Nat.zero_le _) (Filled.start _ _ (by simp))
    · intro ys i hi hI ih
      apply Ev.succ
      have h1 : (i : Int) < (l.length : Int) := by omega
      have h2 : (i : Int) < (ys.length : Int) := by have := hI.1; simp at this; omega
      have hrd : rd_T60 l (i : Int) = l[i] := by simp [rd_T60, hi]
      simp only [laws_toTransactionS.l0, h1, Int.natCast_nonneg, if_true]
      refine Ev.bind (ev_toTransaction _ (by rw [hrd]; exact h.2 _ (List.getElem_mem hi))) ?_
      simp only [h2, if_true, Int.toNat_natCast, wrap_up hi (by omega)]
      exact ih _ (hI.step (by simpa using hi) (by simp [cvTransaction, hrd]))
    · intro ys hI
      apply Ev.succ
      simp only [laws_toTransactionS.l0, Int.lt_irrefl, if_false]
      exact Ev.some (Filled.done (by simpa using hI))
  unfold laws_toTransactionS.f
  have h3 : ((l.length : Int) : Int).toNat ≤ 2706490160679 := by omega
  simp only [Int.natCast_nonneg, if_true, h3]
  simpa using hh
theorem fitds_cvTransaction (l : List S60) (h : l.length ≤ 1048576 ∧ ∀ e ∈ l, fit_Transaction e) : (l.map cvTransaction).length ≤ 1048576 ∧ ∀ e ∈ l.map cvTransaction, fitd_Transaction e := by
  refine ⟨by simpa using h.1, fun e he => ?_⟩
  obtain ⟨x, hx, rfl⟩ := List.mem_map.mp he
  exact fitd_cvTransaction x (h.2 x hx)

theorem ev_eqTransaction (x : S68) (h : fitd_Transaction x) : Ev (fun k => laws_eqTransaction.f k x.f0 x.f1 x.f2 x.f3 x.f4 x.f5 x.f6 x.f7 x.f8 x.f0 x.f1 x.f2 x.f3 x.f4 x.f5 x.f6 x.f7 x.f8) true := by
  unfold fitd_Transaction at h
  unfold laws_eqTransaction.f
  simp only [if_true]
  exact Ev.bind (ev_eqReadMarkS x.f7 (by have := h.1; omega)) (by simp only [if_true]; exact Ev.bind (ev_eqWriteS x.f8 (by have := h.2; omega)) (by simp only [if_true]; exact Ev.now _))

theorem ev_eqTransactionS (l : List S68) (h : l.length ≤ 1048576 ∧ ∀ e ∈ l, fitd_Transaction e) : Ev (fun k => laws_eqTransactionS.f k l l) true := by
  have hl := h.1
  have hh : Ev (fun k => laws_eqTransactionS.l0 k l l ((0 : Nat) : Int)) true := by
    refine ev_up (σ := Unit) (fun _ i k => laws_eqTransactionS.l0 k l l (i : Int)) l.length (fun _ _ => True) (fun _ _ => true) ?_ ?_ () 0 (Nat.zero_le _) trivial
    · intro ys i hi hI ih
      apply Ev.succ
      have h1 : (i : Int) < (l.length : Int) := by omega
      have hrd : rd_T68 l (i : Int) = l[i] := by simp [rd_T68, hi]
      simp only [laws_eqTransactionS.l0, h1, Int.natCast_nonneg, if_true]
      refine Ev.bind (ev_eqTransaction _ (by rw [hrd]; exact h.2 _ (List.getElem_mem hi))) ?_
      simp only [if_true, wrap_up hi (by omega)]
      exact ih () trivial
    · intro ys hI
      apply Ev.succ
      simp only [laws_eqTransactionS.l0, Int.lt_irrefl, if_false]
      exact Ev.now _
  unfold laws_eqTransactionS.f
  simp only [if_true]
  exact hh

theorem sz_VersionSS (l : List (List S207)) (a : Int) (h0 : 0 ≤ a) (h1 : a ≤ 1048576) (hl : l.length ≤ 9223372036854775807) (hg : ∀ e ∈ l, e.length ≤ 9223372036854775807) : ∃ r, Ev (fun k => laws_szVersionSS.f k l a) r ∧ r ≤ a ∧ (0 ≤ r → (l.length ≤ 1048576 ∧ ∀ e ∈ l, e.length ≤ 1048576)) := by
  unfold laws_szVersionSS.f
  rw [wrap_in (by omega) (by omega)]
  by_cases h : a - (l.length : Int) < 0
  · simp only [h, if_true]; exact ⟨-1, Ev.now _, by omega, fun h => absurd h (by omega)⟩
  simp only [h, if_false]
  refine ev_to (σ := Int) (fun s i k => laws_szVersionSS.l0 k l s (i : Int)) l.length (fun s i => 0 ≤ s ∧ s ≤ a ∧ ∀ j (hj : j < l.length), j < i → l[j].length ≤ 1048576) (fun r => r ≤ a ∧ (0 ≤ r → (l.length ≤ 1048576 ∧ ∀ e ∈ l, e.length ≤ 1048576))) ?_ ?_ (a - (l.length : Int)) 0 (Nat.zero_le _) ⟨by omega, by omega, fun j hj h => absurd h (by omega)⟩
  · intro s i hi ⟨hs, hsa, hI⟩ ih
    have h2 : (i : Int) < (l.length : Int) := by omega
    have hrd : rd_L2 l (i : Int) = l[i] := by simp [rd_L2, hi]
    obtain ⟨r, e, hr, hf⟩ := szx_Version (rd_L2 l (i : Int)) s hs (by omega) (by rw [hrd]; exact hg _ (List.getElem_mem hi))
    by_cases c : r < 0
    · refine ⟨-1, Ev.succ ?_, by omega, fun h => absurd h (by omega)⟩
      simp only [laws_szVersionSS.l0, h2, Int.natCast_nonneg, if_true]
      exact Ev.bind e (by simp only [c, if_true]; exact Ev.now _)
    · obtain ⟨r', e', h'⟩ := ih r ⟨by omega, by omega, fun j hj hji => if hh : j < i then hI j hj hh else by obtain rfl : j = i := (by omega); rw [← hrd]; exact hf (by omega)⟩
      refine ⟨r', Ev.succ ?_, h'⟩
      simp only [laws_szVersionSS.l0, h2, Int.natCast_nonneg, if_true]
      exact Ev.bind e (by simp only [c, if_false, wrap_up hi (by omega)]; exact e')
  · intro s ⟨hs, hsa, hI⟩
    refine ⟨s, Ev.succ ?_, hsa, fun _ => ⟨by omega, fun e he => ?_⟩⟩
    · simp only [laws_szVersionSS.l0, Int.lt_irrefl, if_false]; exact Ev.now _
    · obtain ⟨j, hj, rfl⟩ := List.getElem_of_mem he
      exact hI j hj hj

theorem ev_toVersionSS (l : List (List S207)) (h : l.length ≤ 1048576 ∧ ∀ e ∈ l, e.length ≤ 1048576) : Ev (fun k => laws_toVersionSS.f k l) (l.map (List.map cvVersion)) := by
  have hl := h.1
  have hh : Ev (fun k => laws_toVersionSS.l0 k l (List.replicate l.length []) ((0 : Nat) : Int)) (l.map (List.map cvVersion)) := by
    refine ev_up (σ := List (List S76)) (fun ys i k => laws_toVersionSS.l0 k l ys (i : Int)) l.length (fun ys i => Filled (l.map (List.map cvVersion)) ys i) (fun _ _ => l.map (List.map cvVersion)) ?_ ?_ (List.replicate l.length []) 0 (Nat.zero_le _) (Filled.start _ _ (by simp))
    · intro ys i hi hI ih
      apply Ev.succ
      have h1 : (i : Int) < (l.length : Int) := by omega
      have h2 : (i : Int) < (ys.length : Int) := by have := hI.1; simp at this; omega
      have hrd : rd_L2 l (i : Int) = l[i] := by simp [rd_L2, hi]
      simp only [laws_toVersionSS.l0, h1, Int.natCast_nonneg, if_true]
      refine Ev.bind (ev_toVersionS _ (by rw [hrd]; exact h.2 _ (List.getElem_mem hi))) ?_
      simp only [h2, if_true, Int.toNat_natCast, wrap_up hi (by omega)]
      exact ih _ (hI.step (by simpa using hi) (by simp [hrd]))
    · intro ys hI
      apply Ev.succ
      simp only [laws_toVersionSS.l0, Int.lt_irrefl, if_false]
      exact Ev.some (Filled.done (by simpa using hI))
  unfold laws_toVersionSS.f
  have h3 : ((l.length : Int) : Int).toNat ≤ 11728124029610 := by omega
  simp only [Int.natCast_nonneg, if_true, h3]
  simpa using hh

theorem ev_eqVersionSS (l : List (List S76)) (h : l.length ≤ 1048576 ∧ ∀ e ∈ l, e.length ≤ 1048576) : Ev (fun k => laws_eqVersionSS.f k l l) true := by
  have hl := h.1
  have hh : Ev (fun k => laws_eqVersionSS.l0 k l l ((0 : Nat) : Int)) true := by
    refine ev_up (σ := Unit) (fun _ i k => laws_eqVersionSS.l0 k l l (i : Int)) l.length (fun _ _ => True) (fun _ _ => true) ?_ ?_ () 0 (Nat.zero_le _) trivial
    · intro ys i hi hI ih
      apply Ev.succ
      have h1 : (i : Int) < (l.length : Int) := by omega
      have hrd : rd_L11 l (i : Int) = l[i] := by simp [rd_L11, hi]
      simp only [laws_eqVersionSS.l0, h1, Int.natCast_nonneg, if_true]
      refine Ev.bind (ev_eqVersionS _ (by rw [hrd]; have := h.2 _ (List.getElem_mem hi); omega)) ?_
      simp only [if_true, wrap_up hi (by omega)]
      exact ih () trivial
    · intro ys hI
      apply Ev.succ
      simp only [laws_eqVersionSS.l0, Int.lt_irrefl, if_false]
      exact Ev.now _
  unfold laws_eqVersionSS.f
  simp only [if_true]
  exact hh


def eqs {β : Type} (p : β → β → Bool) : List β → List β → Bool
  | [], [] => true
  | x :: xs, y :: ys => p x y && eqs p xs ys
  | _, _ => false
theorem eqs_len {β : Type} (p : β → β → Bool) : ∀ (a b : List β), a.length ≠ b.length → eqs p a b = false
  | [], [], h => absurd rfl h
  | [], _ :: _, _ => rfl
  | _ :: _, [], _ => rfl
  | x :: xs, y :: ys, h => by
    show (p x y && eqs p xs ys) = false
    rw [eqs_len p xs ys (by simpa using h), Bool.and_false]
theorem ev_eqs {β : Type} (p : β → β → Bool) (L : Nat → Nat → Option Bool) (a b : List β) (c : Bool) (hab : a.length = b.length)
    (hgo : ∀ i (hi : i < a.length) (hj : i < b.length) (r : Bool), Ev (fun k => L k (i + 1)) r → Ev (fun k => L k i) (p a[i] b[i] && r)) (hend : Ev (fun k => L k a.length) c) : Ev (fun k => L k 0) (eqs p a b && c) := by
  have key : ∀ d i, i + d = a.length → Ev (fun k => L k i) (eqs p (a.drop i) (b.drop i) && c) := by
    intro d
    induction d with
    | zero =>
      intro i hi
      obtain rfl : i = a.length := by omega
      have h1 : a.drop a.length = [] := List.drop_length
      have h2 : b.drop a.length = [] := by rw [hab]; exact List.drop_length
      rw [h1, h2]
      exact hend
    | succ d ih =>
      intro i hi
      have h := hgo i (by omega) (by omega) _ (ih (i + 1) (by omega))
      rw [List.drop_eq_getElem_cons (show i < a.length by omega), List.drop_eq_getElem_cons (show i < b.length by omega)]
      show Ev (fun k => L k i) ((p a[i] b[i] && eqs p (a.drop (i + 1)) (b.drop (i + 1))) && c)
      rw [Bool.and_assoc]; exact h
  exact key a.length 0 (by omega)
def pVersion (x y : S76) : Bool := !(!(x.f0 == y.f0) || (!(x.f1 == y.f1) || (!(x.f2 == y.f2) || (!(x.f3 == y.f3) || (!(x.f4 == y.f4))))))
theorem eqVersion_impl (a b : List S76) (hl : a.length ≤ 1048576) : Ev (fun k => impl_Version_208.f k a b) (eqs pVersion a b) := by
  unfold impl_Version_208.f
  by_cases h : (a.length : Int) = (b.length : Int)
  · simp only [if_pos h]
    rw [← Bool.and_true (eqs pVersion a b)]
    refine ev_eqs pVersion (fun k i => impl_Version_208.l0 k a b (a.length : Int) (i : Int)) a b true (by omega) ?_ ?_
    · intro i hi hj r hr
      have h1 : (i : Int) < (a.length : Int) := by omega
      have h2 : (i : Int) < (b.length : Int) := by omega
      have ra : rd_T76 a (i : Int) = a[i] := by simp [rd_T76, hi]
      have rb : rd_T76 b (i : Int) = b[i] := by simp [rd_T76, hj]
      apply Ev.succ
      simp only [impl_Version_208.l0, h1, h2, ra, rb, Int.natCast_nonneg, if_true, wrap_up hi (by omega), pVersion]
      cases (!(a[i].f0 == b[i].f0) || (!(a[i].f1 == b[i].f1) || (!(a[i].f2 == b[i].f2) || (!(a[i].f3 == b[i].f3) || (!(a[i].f4 == b[i].f4))))))
      · simp only [Bool.false_eq_true, if_false, Bool.not_false, Bool.true_and]; exact hr
      · simp only [if_true, Bool.not_true, Bool.false_and]; exact Ev.now _
    · apply Ev.succ
      simp only [impl_Version_208.l0, Int.lt_irrefl, if_false]; exact Ev.now _
  · simp only [if_neg h]; rw [eqs_len pVersion a b (by omega)]; exact Ev.now _
theorem eqVersion_spec (a b : List S76) (hl : a.length ≤ 1048576) : Ev (fun k => spec_EqualChains.f k a b) (eqs pVersion a b) := by
  unfold spec_EqualChains.f
  by_cases h : (a.length : Int) = (b.length : Int)
  · simp only [if_pos h]
    rw [← Bool.and_true (eqs pVersion a b)]
    refine ev_eqs pVersion (fun k i => spec_EqualChains.l0 k a b (i : Int)) a b true (by omega) ?_ ?_
    · intro i hi hj r hr
      have h1 : (i : Int) < (a.length : Int) := by omega
      have h2 : (i : Int) < (b.length : Int) := by omega
      have ra : rd_T76 a (i : Int) = a[i] := by simp [rd_T76, hi]
      have rb : rd_T76 b (i : Int) = b[i] := by simp [rd_T76, hj]
      apply Ev.succ
      simp only [spec_EqualChains.l0, h1, h2, ra, rb, Int.natCast_nonneg, if_true, wrap_up hi (by omega), pVersion]
      cases (!(a[i].f0 == b[i].f0) || (!(a[i].f1 == b[i].f1) || (!(a[i].f2 == b[i].f2) || (!(a[i].f3 == b[i].f3) || (!(a[i].f4 == b[i].f4))))))
      · simp only [Bool.false_eq_true, if_false, Bool.not_false, Bool.true_and]; exact hr
      · simp only [if_true, Bool.not_true, Bool.false_and]; exact Ev.now _
    · apply Ev.succ
      simp only [spec_EqualChains.l0, Int.lt_irrefl, if_false]; exact Ev.now _
  · simp only [if_neg h]; rw [eqs_len pVersion a b (by omega)]; exact Ev.now _
def pReadMark (x y : S165) : Bool := !(!(x.f0 == y.f0) || (!(x.f1 == y.f1)))
theorem eqReadMark_impl (a b : List S165) (hl : a.length ≤ 1048576) : Ev (fun k => impl_ReadMark.f k a b) (eqs pReadMark a b) := by
  unfold impl_ReadMark.f
  by_cases h : (a.length : Int) = (b.length : Int)
  · simp only [if_pos h]
    rw [← Bool.and_true (eqs pReadMark a b)]
    refine ev_eqs pReadMark (fun k i => impl_ReadMark.l0 k a b (a.length : Int) (i : Int)) a b true (by omega) ?_ ?_
    · intro i hi hj r hr
      have h1 : (i : Int) < (a.length : Int) := by omega
      have h2 : (i : Int) < (b.length : Int) := by omega
      have ra : rd_T165 a (i : Int) = a[i] := by simp [rd_T165, hi]
      have rb : rd_T165 b (i : Int) = b[i] := by simp [rd_T165, hj]
      apply Ev.succ
      simp only [impl_ReadMark.l0, h1, h2, ra, rb, Int.natCast_nonneg, if_true, wrap_up hi (by omega), pReadMark]
      cases (!(a[i].f0 == b[i].f0) || (!(a[i].f1 == b[i].f1)))
      · simp only [Bool.false_eq_true, if_false, Bool.not_false, Bool.true_and]; exact hr
      · simp only [if_true, Bool.not_true, Bool.false_and]; exact Ev.now _
    · apply Ev.succ
      simp only [impl_ReadMark.l0, Int.lt_irrefl, if_false]; exact Ev.now _
  · simp only [if_neg h]; rw [eqs_len pReadMark a b (by omega)]; exact Ev.now _
def pWrite (x y : S133) : Bool := !(!(x.f0 == y.f0) || (!(x.f1 == y.f1)))
theorem eqWrite_impl (a b : List S133) (hl : a.length ≤ 1048576) : Ev (fun k => impl_Write.f k a b) (eqs pWrite a b) := by
  unfold impl_Write.f
  by_cases h : (a.length : Int) = (b.length : Int)
  · simp only [if_pos h]
    rw [← Bool.and_true (eqs pWrite a b)]
    refine ev_eqs pWrite (fun k i => impl_Write.l0 k a b (a.length : Int) (i : Int)) a b true (by omega) ?_ ?_
    · intro i hi hj r hr
      have h1 : (i : Int) < (a.length : Int) := by omega
      have h2 : (i : Int) < (b.length : Int) := by omega
      have ra : rd_T133 a (i : Int) = a[i] := by simp [rd_T133, hi]
      have rb : rd_T133 b (i : Int) = b[i] := by simp [rd_T133, hj]
      apply Ev.succ
      simp only [impl_Write.l0, h1, h2, ra, rb, Int.natCast_nonneg, if_true, wrap_up hi (by omega), pWrite]
      cases (!(a[i].f0 == b[i].f0) || (!(a[i].f1 == b[i].f1)))
      · simp only [Bool.false_eq_true, if_false, Bool.not_false, Bool.true_and]; exact hr
      · simp only [if_true, Bool.not_true, Bool.false_and]; exact Ev.now _
    · apply Ev.succ
      simp only [impl_Write.l0, Int.lt_irrefl, if_false]; exact Ev.now _
  · simp only [if_neg h]; rw [eqs_len pWrite a b (by omega)]; exact Ev.now _
def pLock (x y : S150) : Bool := !(!(x.f0 == y.f0) || (!(x.f1 == y.f1)))
theorem eqLock_impl (a b : List S150) (hl : a.length ≤ 1048576) : Ev (fun k => impl_Lock.f k a b) (eqs pLock a b) := by
  unfold impl_Lock.f
  by_cases h : (a.length : Int) = (b.length : Int)
  · simp only [if_pos h]
    rw [← Bool.and_true (eqs pLock a b)]
    refine ev_eqs pLock (fun k i => impl_Lock.l0 k a b (a.length : Int) (i : Int)) a b true (by omega) ?_ ?_
    · intro i hi hj r hr
      have h1 : (i : Int) < (a.length : Int) := by omega
      have h2 : (i : Int) < (b.length : Int) := by omega
      have ra : rd_T150 a (i : Int) = a[i] := by simp [rd_T150, hi]
      have rb : rd_T150 b (i : Int) = b[i] := by simp [rd_T150, hj]
      apply Ev.succ
      simp only [impl_Lock.l0, h1, h2, ra, rb, Int.natCast_nonneg, if_true, wrap_up hi (by omega), pLock]
      cases (!(a[i].f0 == b[i].f0) || (!(a[i].f1 == b[i].f1)))
      · simp only [Bool.false_eq_true, if_false, Bool.not_false, Bool.true_and]; exact hr
      · simp only [if_true, Bool.not_true, Bool.false_and]; exact Ev.now _
    · apply Ev.succ
      simp only [impl_Lock.l0, Int.lt_irrefl, if_false]; exact Ev.now _
  · simp only [if_neg h]; rw [eqs_len pLock a b (by omega)]; exact Ev.now _
def pWait (x y : S36) : Bool := !(!(x.f0 == y.f0) || (!(x.f1 == y.f1)))
theorem eqWait_impl (a b : List S36) (hl : a.length ≤ 1048576) : Ev (fun k => impl_Wait.f k a b) (eqs pWait a b) := by
  unfold impl_Wait.f
  by_cases h : (a.length : Int) = (b.length : Int)
  · simp only [if_pos h]
    rw [← Bool.and_true (eqs pWait a b)]
    refine ev_eqs pWait (fun k i => impl_Wait.l0 k a b (a.length : Int) (i : Int)) a b true (by omega) ?_ ?_
    · intro i hi hj r hr
      have h1 : (i : Int) < (a.length : Int) := by omega
      have h2 : (i : Int) < (b.length : Int) := by omega
      have ra : rd_T36 a (i : Int) = a[i] := by simp [rd_T36, hi]
      have rb : rd_T36 b (i : Int) = b[i] := by simp [rd_T36, hj]
      apply Ev.succ
      simp only [impl_Wait.l0, h1, h2, ra, rb, Int.natCast_nonneg, if_true, wrap_up hi (by omega), pWait]
      cases (!(a[i].f0 == b[i].f0) || (!(a[i].f1 == b[i].f1)))
      · simp only [Bool.false_eq_true, if_false, Bool.not_false, Bool.true_and]; exact hr
      · simp only [if_true, Bool.not_true, Bool.false_and]; exact Ev.now _
    · apply Ev.succ
      simp only [impl_Wait.l0, Int.lt_irrefl, if_false]; exact Ev.now _
  · simp only [if_neg h]; rw [eqs_len pWait a b (by omega)]; exact Ev.now _
theorem stores_spec (a b : List (List S76)) (hl : a.length ≤ 1048576) (ha : ∀ e ∈ a, e.length ≤ 1048576) : Ev (fun k => spec_EqualStores.f k a b) (eqs (eqs pVersion) a b) := by
  unfold spec_EqualStores.f
  by_cases h : (a.length : Int) = (b.length : Int)
  · simp only [if_pos h]
    rw [← Bool.and_true (eqs (eqs pVersion) a b)]
    refine ev_eqs (eqs pVersion) (fun k i => spec_EqualStores.l0 k (i : Int) a b) a b true (by omega) ?_ ?_
    · intro i hi hj r hr
      have h1 : (i : Int) < (a.length : Int) := by omega
      have h2 : (i : Int) < (b.length : Int) := by omega
      have ra : rd_L11 a (i : Int) = a[i] := by simp [rd_L11, hi]
      have rb : rd_L11 b (i : Int) = b[i] := by simp [rd_L11, hj]
      apply Ev.succ
      simp only [spec_EqualStores.l0, h1, h2, ra, rb, Int.natCast_nonneg, if_true, wrap_up hi (by omega)]
      refine Ev.bind (eqVersion_spec a[i] b[i] (ha _ (List.getElem_mem hi))) ?_
      cases (eqs pVersion a[i] b[i])
      · simp only [Bool.false_eq_true, if_false, Bool.false_and]; exact Ev.now _
      · simp only [if_true, Bool.true_and]; exact hr
    · apply Ev.succ
      simp only [spec_EqualStores.l0, Int.lt_irrefl, if_false]; exact Ev.now _
  · simp only [if_neg h]; rw [eqs_len _ a b (by omega)]; exact Ev.now _
theorem stores_impl (a b : List (List S76)) (hl : a.length ≤ 1048576) (ha : ∀ e ∈ a, e.length ≤ 1048576) : Ev (fun k => impl_EqualStores.f k a b) (eqs (eqs pVersion) a b) := by
  unfold impl_EqualStores.f
  refine Ev.bind (a := eqs (eqs pVersion) a b) ?_ (Ev.now _)
  unfold impl_Version_185.f
  by_cases h : (a.length : Int) = (b.length : Int)
  · simp only [if_pos h]
    rw [← Bool.and_true (eqs (eqs pVersion) a b)]
    refine ev_eqs (eqs pVersion) (fun k i => impl_Version_185.l0 k b a (a.length : Int) (i : Int)) a b true (by omega) ?_ ?_
    · intro i hi hj r hr
      have h1 : (i : Int) < (a.length : Int) := by omega
      have h2 : (i : Int) < (b.length : Int) := by omega
      have ra : rd_L11 a (i : Int) = a[i] := by simp [rd_L11, hi]
      have rb : rd_L11 b (i : Int) = b[i] := by simp [rd_L11, hj]
      apply Ev.succ
      simp only [impl_Version_185.l0, h1, h2, ra, rb, Int.natCast_nonneg, if_true, wrap_up hi (by omega)]
      refine Ev.bind (a := eqs pVersion a[i] b[i]) ?_ ?_
      · unfold impl_EqualChains.f
        exact Ev.bind (eqVersion_impl a[i] b[i] (ha _ (List.getElem_mem hi))) (Ev.now _)
      cases (eqs pVersion a[i] b[i])
      · simp only [Bool.false_eq_true, if_false, Bool.false_and]; exact Ev.now _
      · simp only [if_true, Bool.true_and]; exact hr
    · apply Ev.succ
      simp only [impl_Version_185.l0, Int.lt_irrefl, if_false]; exact Ev.now _
  · simp only [if_neg h]; rw [eqs_len _ a b (by omega)]; exact Ev.now _
def pTransaction (x y : S68) : Bool := if x.f0 = y.f0 then (if x.f1 = y.f1 then (if x.f2 = y.f2 then (if x.f3 = y.f3 then (if x.f4 = y.f4 then (if x.f5 = y.f5 then (if x.f6 = y.f6 then (eqs pReadMark x.f7 y.f7 && eqs pWrite x.f8 y.f8) else false) else false) else false) else false) else false) else false) else false
theorem tx_spec (x y : S68) (h7 : x.f7.length ≤ 1048576) (h8 : x.f8.length ≤ 1048576) : Ev (fun k => spec_EqualTransactions.f k x.f0 x.f1 x.f2 x.f3 x.f4 x.f5 x.f6 x.f7 x.f8 y.f0 y.f1 y.f2 y.f3 y.f4 y.f5 y.f6 y.f7 y.f8) (pTransaction x y) := by
  have jT : Ev (fun k => spec_EqualTransactions.j0 k true x.f0 x.f1 x.f2 x.f3 x.f4 x.f5 x.f6 x.f7 x.f8 y.f0 y.f1 y.f2 y.f3 y.f4 y.f5 y.f6 y.f7 y.f8) false := Ev.succ (by simp only [spec_EqualTransactions.j0, if_true]; exact Ev.now _)
  unfold spec_EqualTransactions.f pTransaction
  by_cases c0 : x.f0 = y.f0
  rotate_left 1
  · simp only [if_neg c0]; exact jT
  simp only [if_pos c0]
  by_cases c1 : x.f1 = y.f1
  rotate_left 1
  · simp only [if_neg c1]; exact jT
  simp only [if_pos c1]
  by_cases c2 : x.f2 = y.f2
  rotate_left 1
  · simp only [if_neg c2]; exact jT
  simp only [if_pos c2]
  by_cases c3 : x.f3 = y.f3
  rotate_left 1
  · simp only [if_neg c3]; exact jT
  simp only [if_pos c3]
  by_cases c4 : x.f4 = y.f4
  rotate_left 1
  · simp only [if_neg c4]; exact jT
  simp only [if_pos c4]
  by_cases c5 : x.f5 = y.f5
  rotate_left 1
  · simp only [if_neg c5]; exact jT
  simp only [if_pos c5]
  by_cases c6 : x.f6 = y.f6
  rotate_left 1
  · simp only [if_neg c6]; exact jT
  simp only [if_pos c6]
  by_cases c7 : (x.f7.length : Int) = (y.f7.length : Int)
  rotate_left 1
  · simp only [if_neg c7, eqs_len pReadMark x.f7 y.f7 (by omega), Bool.false_and]; exact jT
  simp only [if_pos c7]
  by_cases c8 : (x.f8.length : Int) = (y.f8.length : Int)
  rotate_left 1
  · have : ((x.f8.length : Int) != (y.f8.length : Int)) = true := by simpa using c8
    simp only [this, eqs_len pWrite x.f8 y.f8 (by omega), Bool.and_false]; exact jT
  have : ((x.f8.length : Int) != (y.f8.length : Int)) = false := by simpa using c8
  simp only [this]
  apply Ev.succ
  simp only [spec_EqualTransactions.j0, Bool.false_eq_true, if_false]
  refine ev_eqs pReadMark (fun k i => spec_EqualTransactions.l0 k (i : Int) x.f0 x.f1 x.f2 x.f3 x.f4 x.f5 x.f6 x.f7 x.f8 y.f0 y.f1 y.f2 y.f3 y.f4 y.f5 y.f6 y.f7 y.f8) x.f7 y.f7 (eqs pWrite x.f8 y.f8) (by omega) ?_ ?_
  · intro i hi hj r hr
    have h1 : (i : Int) < (x.f7.length : Int) := by omega
    have h2 : (i : Int) < (y.f7.length : Int) := by omega
    have ra : rd_T165 x.f7 (i : Int) = x.f7[i] := by simp [rd_T165, hi]
    have rb : rd_T165 y.f7 (i : Int) = y.f7[i] := by simp [rd_T165, hj]
    apply Ev.succ
    simp only [spec_EqualTransactions.l0, h1, h2, ra, rb, Int.natCast_nonneg, if_true, wrap_up hi (by omega), pReadMark]
    cases (!(x.f7[i].f0 == y.f7[i].f0) || (!(x.f7[i].f1 == y.f7[i].f1)))
    · simp only [Bool.false_eq_true, if_false, Bool.not_false, Bool.true_and]; exact hr
    · simp only [if_true, Bool.not_true, Bool.false_and]; exact Ev.now _
  · apply Ev.succ
    simp only [spec_EqualTransactions.l0, Int.lt_irrefl, if_false]
    rw [← Bool.and_true (eqs pWrite x.f8 y.f8)]
    refine ev_eqs pWrite (fun k i => spec_EqualTransactions.l1 k (i : Int) x.f0 x.f1 x.f2 x.f3 x.f4 x.f5 x.f6 x.f7 x.f8 y.f0 y.f1 y.f2 y.f3 y.f4 y.f5 y.f6 y.f7 y.f8) x.f8 y.f8 true (by omega) ?_ ?_
    · intro i hi hj r hr
      have h1 : (i : Int) < (x.f8.length : Int) := by omega
      have h2 : (i : Int) < (y.f8.length : Int) := by omega
      have ra : rd_T133 x.f8 (i : Int) = x.f8[i] := by simp [rd_T133, hi]
      have rb : rd_T133 y.f8 (i : Int) = y.f8[i] := by simp [rd_T133, hj]
      apply Ev.succ
      simp only [spec_EqualTransactions.l1, h1, h2, ra, rb, Int.natCast_nonneg, if_true, wrap_up hi (by omega), pWrite]
      cases (!(x.f8[i].f0 == y.f8[i].f0) || (!(x.f8[i].f1 == y.f8[i].f1)))
      · simp only [Bool.false_eq_true, if_false, Bool.not_false, Bool.true_and]; exact hr
      · simp only [if_true, Bool.not_true, Bool.false_and]; exact Ev.now _
    · apply Ev.succ
      simp only [spec_EqualTransactions.l1, Int.lt_irrefl, if_false]; exact Ev.now _
theorem tx_impl (x y : S68) (h7 : x.f7.length ≤ 1048576) (h8 : x.f8.length ≤ 1048576) : Ev (fun k => impl_EqualTransactions.f k x.f0 x.f1 x.f2 x.f3 x.f4 x.f5 x.f6 x.f7 x.f8 y.f0 y.f1 y.f2 y.f3 y.f4 y.f5 y.f6 y.f7 y.f8) (pTransaction x y) := by
  unfold impl_EqualTransactions.f pTransaction
  by_cases c0 : x.f0 = y.f0
  rotate_left 1
  · simp only [if_neg c0]; exact Ev.now _
  simp only [if_pos c0]
  by_cases c1 : x.f1 = y.f1
  rotate_left 1
  · simp only [if_neg c1]; exact Ev.now _
  simp only [if_pos c1]
  by_cases c2 : x.f2 = y.f2
  rotate_left 1
  · simp only [if_neg c2]; exact Ev.now _
  simp only [if_pos c2]
  by_cases c3 : x.f3 = y.f3
  rotate_left 1
  · simp only [if_neg c3]; exact Ev.now _
  simp only [if_pos c3]
  by_cases c4 : x.f4 = y.f4
  rotate_left 1
  · simp only [if_neg c4]; exact Ev.now _
  simp only [if_pos c4]
  by_cases c5 : x.f5 = y.f5
  rotate_left 1
  · simp only [if_neg c5]; exact Ev.now _
  simp only [if_pos c5]
  by_cases c6 : x.f6 = y.f6
  rotate_left 1
  · simp only [if_neg c6]; exact Ev.now _
  simp only [if_pos c6]
  refine Ev.bind (eqReadMark_impl x.f7 y.f7 h7) ?_
  cases (eqs pReadMark x.f7 y.f7)
  · simp only [Bool.false_eq_true, if_false, Bool.false_and]; exact Ev.now _
  · simp only [if_true, Bool.true_and]
    exact Ev.bind (eqWrite_impl x.f8 y.f8 h8) (Ev.now _)
theorem txs_impl (a b : List S68) (hl : a.length ≤ 1048576) (ha : ∀ e ∈ a, e.f7.length ≤ 1048576 ∧ e.f8.length ≤ 1048576) : Ev (fun k => impl_Transaction.f k a b) (eqs pTransaction a b) := by
  unfold impl_Transaction.f
  by_cases h : (a.length : Int) = (b.length : Int)
  · simp only [if_pos h]
    rw [← Bool.and_true (eqs pTransaction a b)]
    refine ev_eqs pTransaction (fun k i => impl_Transaction.l0 k b a (a.length : Int) (i : Int)) a b true (by omega) ?_ ?_
    · intro i hi hj r hr
      have h1 : (i : Int) < (a.length : Int) := by omega
      have h2 : (i : Int) < (b.length : Int) := by omega
      have ra : rd_T68 a (i : Int) = a[i] := by simp [rd_T68, hi]
      have rb : rd_T68 b (i : Int) = b[i] := by simp [rd_T68, hj]
      have hm := ha _ (List.getElem_mem hi)
      apply Ev.succ
      simp only [impl_Transaction.l0, h1, h2, ra, rb, Int.natCast_nonneg, if_true, wrap_up hi (by omega)]
      refine Ev.bind (tx_impl a[i] b[i] hm.1 hm.2) ?_
      cases (pTransaction a[i] b[i])
      · simp only [Bool.false_eq_true, if_false, Bool.false_and]; exact Ev.now _
      · simp only [if_true, Bool.true_and]; exact hr
    · apply Ev.succ
      simp only [impl_Transaction.l0, Int.lt_irrefl, if_false]; exact Ev.now _
  · simp only [if_neg h]; rw [eqs_len _ a b (by omega)]; exact Ev.now _
theorem both_EqualEngines (c c' : Bool) (vs vs' : List (List S76)) (ts ts' : List S68) (ls ls' : List S150) (ws ws' : List S36) (st st' : Int) (hv : vs.length ≤ 1048576 ∧ ∀ e ∈ vs, e.length ≤ 1048576) (ht : ts.length ≤ 1048576 ∧ ∀ e ∈ ts, e.f7.length ≤ 1048576 ∧ e.f8.length ≤ 1048576) (hl : ls.length ≤ 1048576) (hw : ws.length ≤ 1048576) : ∃ r, Ev (fun k => spec_EqualEngines.f k c vs ts ls ws st c' vs' ts' ls' ws' st') r ∧ Ev (fun k => impl_EqualEngines.f k c vs ts ls ws st c' vs' ts' ls' ws' st') r := by
  have jT : Ev (fun k => spec_EqualEngines.j0 k true c vs ts ls ws st c' vs' ts' ls' ws' st') false := Ev.succ (by simp only [spec_EqualEngines.j0, if_true]; exact Ev.now _)
  have iV := stores_impl vs vs' hv.1 hv.2
  have sV := stores_spec vs vs' hv.1 hv.2
  have iT := txs_impl ts ts' ht.1 ht.2
  have iL := eqLock_impl ls ls' hl
  have iW := eqWait_impl ws ws' hw
  have hi : Ev (fun k => impl_EqualEngines.f k c vs ts ls ws st c' vs' ts' ls' ws' st') ((c == c') && (decide (st = st') && (eqs (eqs pVersion) vs vs' && (eqs pTransaction ts ts' && (eqs pLock ls ls' && eqs pWait ws ws'))))) := by
    unfold impl_EqualEngines.f
    cases (c == c')
    · simp only [Bool.false_eq_true, if_false, Bool.false_and]; exact Ev.now _
    simp only [if_true, Bool.true_and]
    by_cases g : st = st'
    rotate_left 1
    · simp only [if_neg g, decide_eq_false g, Bool.false_and]; exact Ev.now _
    simp only [if_pos g, decide_eq_true g, Bool.true_and]
    refine Ev.bind iV ?_
    cases (eqs (eqs pVersion) vs vs')
    · simp only [Bool.false_eq_true, if_false, Bool.false_and]; exact Ev.now _
    simp only [if_true, Bool.true_and]
    refine Ev.bind iT ?_
    cases (eqs pTransaction ts ts')
    · simp only [Bool.false_eq_true, if_false, Bool.false_and]; exact Ev.now _
    simp only [if_true, Bool.true_and]
    refine Ev.bind iL ?_
    cases (eqs pLock ls ls')
    · simp only [Bool.false_eq_true, if_false, Bool.false_and]; exact Ev.now _
    simp only [if_true, Bool.true_and]
    exact Ev.bind iW (Ev.now _)
  refine ⟨_, ?_, hi⟩
  unfold spec_EqualEngines.f
  cases g0 : (c == c')
  · have : (c != c') = true := by simp only [bne, g0, Bool.not_false]
    simp only [this, if_true, Bool.false_and]; exact jT
  have : (c != c') = false := by simp only [bne, g0, Bool.not_true]
  simp only [this, Bool.false_eq_true, if_false, Bool.true_and]
  refine Ev.bind sV ?_
  cases (eqs (eqs pVersion) vs vs')
  · simp only [Bool.false_eq_true, if_false, Bool.false_and, Bool.and_false]; exact jT
  simp only [if_true, Bool.true_and]
  by_cases g1 : (ts.length : Int) = (ts'.length : Int)
  rotate_left 1
  · simp only [if_neg g1, eqs_len pTransaction ts ts' (by omega), Bool.false_and, Bool.and_false]; exact jT
  by_cases g2 : (ls.length : Int) = (ls'.length : Int)
  rotate_left 1
  · simp only [if_pos g1, if_neg g2, eqs_len pLock ls ls' (by omega), Bool.false_and, Bool.and_false]; exact jT
  by_cases g3 : (ws.length : Int) = (ws'.length : Int)
  rotate_left 1
  · simp only [if_pos g1, if_pos g2, if_neg g3, eqs_len pWait ws ws' (by omega), Bool.and_false]; exact jT
  simp only [if_pos g1, if_pos g2, if_pos g3]
  by_cases g4 : st = st'
  rotate_left 1
  · have : (st != st') = true := by simpa using g4
    simp only [this, decide_eq_false g4, Bool.false_and]; exact jT
  have : (st != st') = false := by simpa using g4
  simp only [this, decide_eq_true g4, Bool.true_and]
  apply Ev.succ
  simp only [spec_EqualEngines.j0, Bool.false_eq_true, if_false]
  refine ev_eqs pTransaction (fun k i => spec_EqualEngines.l0 k (i : Int) c vs ts ls ws st c' vs' ts' ls' ws' st') ts ts' (eqs pLock ls ls' && eqs pWait ws ws') (by omega) ?_ ?_
  · intro i hi hj r hr
    have h1 : (i : Int) < (ts.length : Int) := by omega
    have h2 : (i : Int) < (ts'.length : Int) := by omega
    have ra : rd_T68 ts (i : Int) = ts[i] := by simp [rd_T68, hi]
    have rb : rd_T68 ts' (i : Int) = ts'[i] := by simp [rd_T68, hj]
    have hm := ht.2 _ (List.getElem_mem hi)
    apply Ev.succ
    simp only [spec_EqualEngines.l0, h1, h2, ra, rb, Int.natCast_nonneg, if_true, wrap_up hi (by omega)]
    refine Ev.bind (tx_spec ts[i] ts'[i] hm.1 hm.2) ?_
    cases (pTransaction ts[i] ts'[i])
    · simp only [Bool.false_eq_true, if_false, Bool.false_and]; exact Ev.now _
    · simp only [if_true, Bool.true_and]; exact hr
  apply Ev.succ
  simp only [spec_EqualEngines.l0, Int.lt_irrefl, if_false]
  refine ev_eqs pLock (fun k i => spec_EqualEngines.l1 k (i : Int) c vs ts ls ws st c' vs' ts' ls' ws' st') ls ls' (eqs pWait ws ws') (by omega) ?_ ?_
  · intro i hi hj r hr
    have h1 : (i : Int) < (ls.length : Int) := by omega
    have h2 : (i : Int) < (ls'.length : Int) := by omega
    have ra : rd_T150 ls (i : Int) = ls[i] := by simp [rd_T150, hi]
    have rb : rd_T150 ls' (i : Int) = ls'[i] := by simp [rd_T150, hj]
    apply Ev.succ
    simp only [spec_EqualEngines.l1, h1, h2, ra, rb, Int.natCast_nonneg, if_true, wrap_up hi (by omega), pLock]
    cases (!(ls[i].f0 == ls'[i].f0) || (!(ls[i].f1 == ls'[i].f1)))
    · simp only [Bool.false_eq_true, if_false, Bool.not_false, Bool.true_and]; exact hr
    · simp only [if_true, Bool.not_true, Bool.false_and]; exact Ev.now _
  apply Ev.succ
  simp only [spec_EqualEngines.l1, Int.lt_irrefl, if_false]
  rw [← Bool.and_true (eqs pWait ws ws')]
  refine ev_eqs pWait (fun k i => spec_EqualEngines.l2 k (i : Int) c vs ts ls ws st c' vs' ts' ls' ws' st') ws ws' true (by omega) ?_ ?_
  · intro i hi hj r hr
    have h1 : (i : Int) < (ws.length : Int) := by omega
    have h2 : (i : Int) < (ws'.length : Int) := by omega
    have ra : rd_T36 ws (i : Int) = ws[i] := by simp [rd_T36, hi]
    have rb : rd_T36 ws' (i : Int) = ws'[i] := by simp [rd_T36, hj]
    apply Ev.succ
    simp only [spec_EqualEngines.l2, h1, h2, ra, rb, Int.natCast_nonneg, if_true, wrap_up hi (by omega), pWait]
    cases (!(ws[i].f0 == ws'[i].f0) || (!(ws[i].f1 == ws'[i].f1)))
    · simp only [Bool.false_eq_true, if_false, Bool.not_false, Bool.true_and]; exact hr
    · simp only [if_true, Bool.not_true, Bool.false_and]; exact Ev.now _
  apply Ev.succ
  simp only [spec_EqualEngines.l2, Int.lt_irrefl, if_false]; exact Ev.now _
theorem sz_en (c : Bool) (vs : List (List S207)) (l : List S60) (ls : List S160) (ws : List S183) (st : Int) (b : Int) (hb0 : 0 ≤ b) (hb1 : b ≤ 1048576) (hv : vs.length ≤ 9223372036854775807 ∧ ∀ e ∈ vs, e.length ≤ 9223372036854775807) (hl : l.length ≤ 9223372036854775807 ∧ ∀ e ∈ l, lim_Transaction e) (hls : ls.length ≤ 9223372036854775807) (hws : ws.length ≤ 9223372036854775807) : ∃ r, Ev (fun k => laws_szEngine.f k c vs l ls ws st b) r ∧ r ≤ b ∧ (0 ≤ r → (vs.length ≤ 1048576 ∧ ∀ e ∈ vs, e.length ≤ 1048576) ∧ (l.length ≤ 1048576 ∧ ∀ e ∈ l, fit_Transaction e) ∧ ls.length ≤ 1048576 ∧ ws.length ≤ 1048576) := by
  unfold laws_szEngine.f laws_szStore.f
  obtain ⟨r0, e0, u0, f0⟩ := sz_VersionSS vs b (by omega) (by omega) hv.1 hv.2
  by_cases c0 : r0 < 0
  · refine ⟨-1, Ev.bind (a := -1) (Ev.bind e0 (by simp only [c0, if_true]; exact Ev.now _)) (by simp only [show (-1 : Int) < 0 from by decide, if_true]; exact Ev.now _), by omega, fun h => absurd h (by omega)⟩
  have b0 : Ev (fun k => (laws_szVersionSS.f k vs b).bind fun t104 => if t104 < 0 then some (-1) else some t104) r0 := Ev.bind e0 (by simp only [c0, if_false]; exact Ev.now _)
  obtain ⟨r1, e1, u1, f1⟩ := sz_TransactionS l r0 (by omega) (by omega) hl.1 hl.2
  by_cases c1 : r1 < 0
  · exact ⟨-1, Ev.bind b0 (by simp only [c0, if_false]; exact Ev.bind e1 (by simp only [c1, if_true]; exact Ev.now _)), by omega, fun h => absurd h (by omega)⟩
  obtain ⟨r2, e2, u2, f2⟩ := szx_Lock ls r1 (by omega) (by omega) hls
  by_cases c2 : r2 < 0
  · exact ⟨-1, Ev.bind b0 (by simp only [c0, if_false]; exact Ev.bind e1 (by simp only [c1, if_false]; exact Ev.bind e2 (by simp only [c2, if_true]; exact Ev.now _))), by omega, fun h => absurd h (by omega)⟩
  obtain ⟨r3, e3, u3, f3⟩ := szx_Wait ws r2 (by omega) (by omega) hws
  by_cases c3 : r3 < 0
  · exact ⟨-1, Ev.bind b0 (by simp only [c0, if_false]; exact Ev.bind e1 (by simp only [c1, if_false]; exact Ev.bind e2 (by simp only [c2, if_false]; exact Ev.bind e3 (by simp only [c3, if_true]; exact Ev.now _)))), by omega, fun h => absurd h (by omega)⟩
  exact ⟨r3, Ev.bind b0 (by simp only [c0, if_false]; exact Ev.bind e1 (by simp only [c1, if_false]; exact Ev.bind e2 (by simp only [c2, if_false]; exact Ev.bind e3 (by simp only [c3, if_false]; exact Ev.now _)))), by omega, fun _ => ⟨f0 (by omega), f1 (by omega), f2 (by omega), f3 (by omega)⟩⟩
theorem to_en (c : Bool) (vs : List (List S207)) (l : List S60) (ls : List S160) (ws : List S183) (st : Int) (hvl : vs.length ≤ 1048576 ∧ ∀ e ∈ vs, e.length ≤ 1048576) (htl : l.length ≤ 1048576 ∧ ∀ e ∈ l, fit_Transaction e) (hll : ls.length ≤ 1048576) (hwl : ws.length ≤ 1048576) : Ev (fun k => laws_toEngine.f k c vs l ls ws st) (c, vs.map (List.map cvVersion), l.map cvTransaction, ls.map cvLock, ws.map cvWait, st) := by
  unfold laws_toEngine.f laws_toStore.f
  exact Ev.bind (Ev.bind (ev_toVersionSS vs hvl) (Ev.now _)) (Ev.bind (ev_toTransactionS l htl) (Ev.bind (ev_toLockS ls hll) (Ev.bind (ev_toWaitS ws hwl) (Ev.now _))))
theorem eq_en (c : Bool) (vs : List (List S207)) (l : List S60) (ls : List S160) (ws : List S183) (st : Int) (hvl : vs.length ≤ 1048576 ∧ ∀ e ∈ vs, e.length ≤ 1048576) (htl : l.length ≤ 1048576 ∧ ∀ e ∈ l, fit_Transaction e) (hll : ls.length ≤ 1048576) (hwl : ws.length ≤ 1048576) : Ev (fun k => laws_eqEngine.f k c (vs.map (List.map cvVersion)) (l.map cvTransaction) (ls.map cvLock) (ws.map cvWait) st c (vs.map (List.map cvVersion)) (l.map cvTransaction) (ls.map cvLock) (ws.map cvWait) st) true := by
  unfold laws_eqEngine.f laws_eqStore.f
  simp only [bne_self_eq_false, Bool.false_eq_true, if_false, if_true]
  refine Ev.bind (a := true) (Ev.bind (ev_eqVersionSS _ ⟨by simpa using hvl.1, fun e he => ?_⟩) (by simp only [if_true]; exact Ev.now _)) ?_
  · obtain ⟨x, hx, rfl⟩ := List.mem_map.mp he
    simpa using hvl.2 x hx
  simp only [if_true]
  exact Ev.bind (ev_eqTransactionS _ (fitds_cvTransaction l htl)) (by simp only [if_true]; exact Ev.bind (ev_eqLockS _ (by simp; omega)) (by simp only [if_true]; exact Ev.bind (ev_eqWaitS _ (by simp; omega)) (by simp only [if_true]; exact Ev.now _)))
theorem tx_lim {l : List S60} (hl : (okRow PFnExactEqualEngines.g60) l) : l.length ≤ 9223372036854775807 ∧ ∀ e ∈ l, lim_Transaction e := ⟨by have := hl.1; simp only [maxLen] at this; omega, fun x hx => by
  have h := (hl.2 x hx).2.2.2.2.2.2.2; have := h.1.1; have := h.2.1; simp only [maxLen] at *; unfold lim_Transaction; omega⟩
theorem st_lim {vs : List (List S207)} (hv : (okRow (okRow PFnExactEqualEngines.g207)) vs) : vs.length ≤ 9223372036854775807 ∧ ∀ e ∈ vs, e.length ≤ 9223372036854775807 := ⟨by have := hv.1; simp only [maxLen] at this; omega, fun x hx => by have := (hv.2 x hx).1; simp only [maxLen] at this; omega⟩
theorem FnExactEqualEngines : ∀ (x0_0 : Bool) (x0_1_0 : List (List (S207))) (x0_2 : List (S60)) (x0_3 : List (S160)) (x0_4 : List (S183)) (x0_5 : Int) (x1_0 : Bool) (x1_1_0 : List (List (S207))) (x1_2 : List (S60)) (x1_3 : List (S160)) (x1_4 : List (S183)) (x1_5 : Int), okBool x0_0 → (okRow (okRow PFnExactEqualEngines.g207)) x0_1_0 → (okRow PFnExactEqualEngines.g60) x0_2 → (okRow PFnExactEqualEngines.g160) x0_3 → (okRow PFnExactEqualEngines.g183) x0_4 → (okInt .i64) x0_5 → okBool x1_0 → (okRow (okRow PFnExactEqualEngines.g207)) x1_1_0 → (okRow PFnExactEqualEngines.g60) x1_2 → (okRow PFnExactEqualEngines.g160) x1_3 → (okRow PFnExactEqualEngines.g183) x1_4 → (okInt .i64) x1_5 → ∃ k, laws_FnExactEqualEngines.f k x0_0 x0_1_0 x0_2 x0_3 x0_4 x0_5 x1_0 x1_1_0 x1_2 x1_3 x1_4 x1_5 = some true := by
  intro c vs l ls ws st c' vs' l' ls' ws' st' _ hv hl hls hws _ _ hv' hl' hls' hws' _
  apply Ev.rounds
  unfold laws_FnExactEqualEngines.f
  obtain ⟨r, e, hr, hf⟩ := sz_en c vs l ls ws st 1048576 (by omega) (by omega) (st_lim hv) (tx_lim hl) (by have := hls.1; simp only [maxLen] at this; omega) (by have := hws.1; simp only [maxLen] at this; omega)
  refine Ev.bind e ?_
  by_cases h : r < 0
  · simp only [h, if_true]; exact Ev.now _
  obtain ⟨h1, h2, h3, h4⟩ := hf (by omega)
  simp only [h, if_false]
  obtain ⟨r', e', hr', hf'⟩ := sz_en c' vs' l' ls' ws' st' r (by omega) (by omega) (st_lim hv') (tx_lim hl') (by have := hls'.1; simp only [maxLen] at this; omega) (by have := hws'.1; simp only [maxLen] at this; omega)
  refine Ev.bind e' ?_
  by_cases h' : r' < 0
  · simp only [h', if_true]; exact Ev.now _
  obtain ⟨h1', h2', h3', h4'⟩ := hf' (by omega)
  simp only [h', if_false]
  have ta := to_en c vs l ls ws st h1 h2 h3 h4
  have tb := to_en c' vs' l' ls' ws' st' h1' h2' h3' h4'
  obtain ⟨v, s1, i1⟩ := both_EqualEngines c c' (vs.map (List.map cvVersion)) (vs'.map (List.map cvVersion)) (l.map cvTransaction) (l'.map cvTransaction) (ls.map cvLock) (ls'.map cvLock) (ws.map cvWait) (ws'.map cvWait) st st' ⟨by simpa using h1.1, fun e he => by
    obtain ⟨x, hx, rfl⟩ := List.mem_map.mp he
    simpa using h1.2 x hx⟩ ⟨by simpa using h2.1, fun e he => by
    have := (fitds_cvTransaction l h2).2 e he
    unfold fitd_Transaction at this; omega⟩ (by simpa using h3) (by simpa using h4)
  refine Ev.bind ta (Ev.bind tb (Ev.bind s1 (Ev.bind ta (Ev.bind tb (Ev.bind i1 ?_)))))
  simp only [bne_self_eq_false, Bool.false_eq_true, if_false]
  refine Ev.bind ta (Ev.bind (eq_en c vs l ls ws st h1 h2 h3 h4) ?_)
  simp only [if_true]
  refine Ev.bind tb (Ev.bind (eq_en c' vs' l' ls' ws' st' h1' h2' h3' h4') ?_)
  simp only [if_true]; exact Ev.now _

end Go.Proofs.Ytakpkmlbklahhaa.Pure
