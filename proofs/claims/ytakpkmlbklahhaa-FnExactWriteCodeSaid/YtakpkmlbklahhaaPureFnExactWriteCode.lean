/- The plain statement of FnExactWriteCode: both functions give the same code, and leave store, locks and transaction as they were. Condition: the rows' lengths are at most maxLen. -/
import Derived.Test.YtakpkmlbklahhaaGoodFnExactWriteCode
import Derived.Test.YtakpkmlbklahhaaPlainV
namespace Go.Proofs.Ytakpkmlbklahhaa.Pure
open Go.RowKit Go.Proofs.Ytakpkmlbklahhaa.PFnExactWriteCode Go.Proofs.YtakpkmlbklahhaaW.PrintWords Go.Proofs.YtakpkmlbklahhaaW.PrintLast Go.Proofs.Ytakpkmlbklahhaa.OpenK Go.Proofs.Ytakpkmlbklahhaa.Plain
set_option linter.unusedVariables false
set_option linter.unusedSimpArgs false

theorem sz_LockS (l : List S160) (a : Int) (h0 : 0 ≤ a) (h1 : a ≤ 1048576) (hl : l.length ≤ 9223372036854775807) : laws_szLockS.f l a = some (if a < l.length then -1 else a - l.length) := by
  unfold laws_szLockS.f
  rw [wrap_in (by omega) (by omega)]
  by_cases h : a < l.length
  · rw [if_pos (by omega), if_pos h]
  · rw [if_neg (by omega), if_neg h]

theorem szx_Lock (l : List S160) (a : Int) (h0 : 0 ≤ a) (h1 : a ≤ 1048576) (hl : l.length ≤ 9223372036854775807) : ∃ r, Ev (fun _ => laws_szLockS.f l a) r ∧ r ≤ a ∧ (0 ≤ r → l.length ≤ 1048576) := by
  rw [sz_LockS l a h0 h1 hl]
  refine ⟨_, Ev.now _, ?_, ?_⟩ <;> split <;> omega

theorem sz_ReadMarkS (l : List S189) (a : Int) (h0 : 0 ≤ a) (h1 : a ≤ 1048576) (hl : l.length ≤ 9223372036854775807) : laws_szReadMarkS.f l a = some (if a < l.length then -1 else a - l.length) := by
  unfold laws_szReadMarkS.f
  rw [wrap_in (by omega) (by omega)]
  by_cases h : a < l.length
  · rw [if_pos (by omega), if_pos h]
  · rw [if_neg (by omega), if_neg h]

theorem szx_ReadMark (l : List S189) (a : Int) (h0 : 0 ≤ a) (h1 : a ≤ 1048576) (hl : l.length ≤ 9223372036854775807) : ∃ r, Ev (fun _ => laws_szReadMarkS.f l a) r ∧ r ≤ a ∧ (0 ≤ r → l.length ≤ 1048576) := by
  rw [sz_ReadMarkS l a h0 h1 hl]
  refine ⟨_, Ev.now _, ?_, ?_⟩ <;> split <;> omega

theorem sz_VersionS (l : List S207) (a : Int) (h0 : 0 ≤ a) (h1 : a ≤ 1048576) (hl : l.length ≤ 9223372036854775807) : laws_szVersionS.f l a = some (if a < l.length then -1 else a - l.length) := by
  unfold laws_szVersionS.f
  rw [wrap_in (by omega) (by omega)]
  by_cases h : a < l.length
  · rw [if_pos (by omega), if_pos h]
  · rw [if_neg (by omega), if_neg h]

theorem szx_Version (l : List S207) (a : Int) (h0 : 0 ≤ a) (h1 : a ≤ 1048576) (hl : l.length ≤ 9223372036854775807) : ∃ r, Ev (fun _ => laws_szVersionS.f l a) r ∧ r ≤ a ∧ (0 ≤ r → l.length ≤ 1048576) := by
  rw [sz_VersionS l a h0 h1 hl]
  refine ⟨_, Ev.now _, ?_, ?_⟩ <;> split <;> omega

theorem sz_WriteS (l : List S191) (a : Int) (h0 : 0 ≤ a) (h1 : a ≤ 1048576) (hl : l.length ≤ 9223372036854775807) : laws_szWriteS.f l a = some (if a < l.length then -1 else a - l.length) := by
  unfold laws_szWriteS.f
  rw [wrap_in (by omega) (by omega)]
  by_cases h : a < l.length
  · rw [if_pos (by omega), if_pos h]
  · rw [if_neg (by omega), if_neg h]

theorem szx_Write (l : List S191) (a : Int) (h0 : 0 ≤ a) (h1 : a ≤ 1048576) (hl : l.length ≤ 9223372036854775807) : ∃ r, Ev (fun _ => laws_szWriteS.f l a) r ∧ r ≤ a ∧ (0 ≤ r → l.length ≤ 1048576) := by
  rw [sz_WriteS l a h0 h1 hl]
  refine ⟨_, Ev.now _, ?_, ?_⟩ <;> split <;> omega

def cvLock (x : S160) : S150 := ⟨x.f0, x.f1⟩
theorem ev_toLockS (l : List S160) (hl : l.length ≤ 1048576) : Ev (fun k => laws_toLockS.f k l) (l.map cvLock) := by
  have h : Ev (fun k => laws_toLockS.l0 k l (List.replicate l.length z150) ((0 : Nat) : Int)) (l.map cvLock) := by
    refine ev_up (σ := List S150) (fun ys i k => laws_toLockS.l0 k l ys (i : Int)) l.length (fun ys i => Filled (l.map cvLock) ys i) (fun _ _ => l.map cvLock) ?_ ?_ (List.replicate l.length z150) 0 (Nat.zero_le _) (Filled.start _ _ (by simp))
    · intro ys i hi hI ih
      apply Ev.succ
      have h1 : (i : Int) < (l.length : Int) := by omega
      have h2 : (i : Int) < (ys.length : Int) := by have := hI.1; simp at this; omega
      simp only [laws_toLockS.l0, laws_toLock.f, Option.bind_some, h1, h2, Int.natCast_nonneg, if_true, Int.toNat_natCast, wrap_up hi (by omega)]
      exact ih _ (hI.step (by simpa using hi) (by simp [cvLock, rd_T160, hi]))
    · intro ys hI
      apply Ev.succ
      simp only [laws_toLockS.l0, Int.lt_irrefl, if_false]
      exact Ev.some (Filled.done (by simpa using hI))
  unfold laws_toLockS.f
  have h3 : ((l.length : Int) : Int).toNat ≤ 17592186044416 := by omega
  simp only [Int.natCast_nonneg, if_true, h3]
  simpa using h

def cvReadMark (x : S189) : S165 := ⟨x.f0, x.f1⟩
theorem ev_toReadMarkS (l : List S189) (hl : l.length ≤ 1048576) : Ev (fun k => laws_toReadMarkS.f k l) (l.map cvReadMark) := by
  have h : Ev (fun k => laws_toReadMarkS.l0 k l (List.replicate l.length z165) ((0 : Nat) : Int)) (l.map cvReadMark) := by
    refine ev_up (σ := List S165) (fun ys i k => laws_toReadMarkS.l0 k l ys (i : Int)) l.length (fun ys i => Filled (l.map cvReadMark) ys i) (fun _ _ => l.map cvReadMark) ?_ ?_ (List.replicate l.length z165) 0 (Nat.zero_le _) (Filled.start _ _ (by simp))
    · intro ys i hi hI ih
      apply Ev.succ
      have h1 : (i : Int) < (l.length : Int) := by omega
      have h2 : (i : Int) < (ys.length : Int) := by have := hI.1; simp at this; omega
      simp only [laws_toReadMarkS.l0, laws_toReadMark.f, Option.bind_some, h1, h2, Int.natCast_nonneg, if_true, Int.toNat_natCast, wrap_up hi (by omega)]
      exact ih _ (hI.step (by simpa using hi) (by simp [cvReadMark, rd_T189, hi]))
    · intro ys hI
      apply Ev.succ
      simp only [laws_toReadMarkS.l0, Int.lt_irrefl, if_false]
      exact Ev.some (Filled.done (by simpa using hI))
  unfold laws_toReadMarkS.f
  have h3 : ((l.length : Int) : Int).toNat ≤ 17592186044416 := by omega
  simp only [Int.natCast_nonneg, if_true, h3]
  simpa using h

def cvVersion (x : S207) : S76 := ⟨x.f0, x.f1, x.f2, x.f3, x.f4⟩
theorem ev_toVersionS (l : List S207) (hl : l.length ≤ 1048576) : Ev (fun k => laws_toVersionS.f k l) (l.map cvVersion) := by
  have h : Ev (fun k => laws_toVersionS.l0 k l (List.replicate l.length z76) ((0 : Nat) : Int)) (l.map cvVersion) := by
    refine ev_up (σ := List S76) (fun ys i k => laws_toVersionS.l0 k l ys (i : Int)) l.length (fun ys i => Filled (l.map cvVersion) ys i) (fun _ _ => l.map cvVersion) ?_ ?_ (List.replicate l.length z76) 0 (Nat.zero_le _) (Filled.start _ _ (by simp))
    · intro ys i hi hI ih
      apply Ev.succ
      have h1 : (i : Int) < (l.length : Int) := by omega
      have h2 : (i : Int) < (ys.length : Int) := by have := hI.1; simp at this; omega
      simp only [laws_toVersionS.l0, laws_toVersion.f, Option.bind_some, h1, h2, Int.natCast_nonneg, if_true, Int.toNat_natCast, wrap_up hi (by omega)]
      exact ih _ (hI.step (by simpa using hi) (by simp [cvVersion, rd_T207, hi]))
    · intro ys hI
      apply Ev.succ
      simp only [laws_toVersionS.l0, Int.lt_irrefl, if_false]
      exact Ev.some (Filled.done (by simpa using hI))
  unfold laws_toVersionS.f
  have h3 : ((l.length : Int) : Int).toNat ≤ 7036874417766 := by omega
  simp only [Int.natCast_nonneg, if_true, h3]
  simpa using h

def cvWrite (x : S191) : S133 := ⟨x.f0, x.f1⟩
theorem ev_toWriteS (l : List S191) (hl : l.length ≤ 1048576) : Ev (fun k => laws_toWriteS.f k l) (l.map cvWrite) := by
  have h : Ev (fun k => laws_toWriteS.l0 k l (List.replicate l.length z133) ((0 : Nat) : Int)) (l.map cvWrite) := by
    refine ev_up (σ := List S133) (fun ys i k => laws_toWriteS.l0 k l ys (i : Int)) l.length (fun ys i => Filled (l.map cvWrite) ys i) (fun _ _ => l.map cvWrite) ?_ ?_ (List.replicate l.length z133) 0 (Nat.zero_le _) (Filled.start _ _ (by simp))
    · intro ys i hi hI ih
      apply Ev.succ
      have h1 : (i : Int) < (l.length : Int) := by omega
      have h2 : (i : Int) < (ys.length : Int) := by have := hI.1; simp at this; omega
      simp only [laws_toWriteS.l0, laws_toWrite.f, Option.bind_some, h1, h2, Int.natCast_nonneg, if_true, Int.toNat_natCast, wrap_up hi (by omega)]
      exact ih _ (hI.step (by simpa using hi) (by simp [cvWrite, rd_T191, hi]))
    · intro ys hI
      apply Ev.succ
      simp only [laws_toWriteS.l0, Int.lt_irrefl, if_false]
      exact Ev.some (Filled.done (by simpa using hI))
  unfold laws_toWriteS.f
  have h3 : ((l.length : Int) : Int).toNat ≤ 17592186044416 := by omega
  simp only [Int.natCast_nonneg, if_true, h3]
  simpa using h

theorem ev_eqLockS (l : List S150) (hl : l.length ≤ 9223372036854775807) : Ev (fun k => laws_eqLockS.f k l l) true := by
  have h : Ev (fun k => laws_eqLockS.l0 k l l ((0 : Nat) : Int)) true := by
    refine ev_up (σ := Unit) (fun _ i k => laws_eqLockS.l0 k l l (i : Int)) l.length (fun _ _ => True) (fun _ _ => true) ?_ ?_ () 0 (Nat.zero_le _) trivial
    · intro ys i hi hI ih
      apply Ev.succ
      have h1 : (i : Int) < (l.length : Int) := by omega
      simp only [laws_eqLockS.l0, laws_eqLock.f, Option.bind_some, h1, Int.natCast_nonneg, if_true, wrap_up hi hl]
      exact ih () trivial
    · intro ys hI
      apply Ev.succ
      simp only [laws_eqLockS.l0, Int.lt_irrefl, if_false]
      exact Ev.now _
  unfold laws_eqLockS.f
  simp only [if_true]
  exact h

theorem ev_eqReadMarkS (l : List S165) (hl : l.length ≤ 9223372036854775807) : Ev (fun k => laws_eqReadMarkS.f k l l) true := by
  have h : Ev (fun k => laws_eqReadMarkS.l0 k l l ((0 : Nat) : Int)) true := by
    refine ev_up (σ := Unit) (fun _ i k => laws_eqReadMarkS.l0 k l l (i : Int)) l.length (fun _ _ => True) (fun _ _ => true) ?_ ?_ () 0 (Nat.zero_le _) trivial
    · intro ys i hi hI ih
      apply Ev.succ
      have h1 : (i : Int) < (l.length : Int) := by omega
      simp only [laws_eqReadMarkS.l0, laws_eqReadMark.f, Option.bind_some, h1, Int.natCast_nonneg, if_true, wrap_up hi hl]
      exact ih () trivial
    · intro ys hI
      apply Ev.succ
      simp only [laws_eqReadMarkS.l0, Int.lt_irrefl, if_false]
      exact Ev.now _
  unfold laws_eqReadMarkS.f
  simp only [if_true]
  exact h

theorem ev_eqVersionS (l : List S76) (hl : l.length ≤ 9223372036854775807) : Ev (fun k => laws_eqVersionS.f k l l) true := by
  have h : Ev (fun k => laws_eqVersionS.l0 k l l ((0 : Nat) : Int)) true := by
    refine ev_up (σ := Unit) (fun _ i k => laws_eqVersionS.l0 k l l (i : Int)) l.length (fun _ _ => True) (fun _ _ => true) ?_ ?_ () 0 (Nat.zero_le _) trivial
    · intro ys i hi hI ih
      apply Ev.succ
      have h1 : (i : Int) < (l.length : Int) := by omega
      simp only [laws_eqVersionS.l0, laws_eqVersion.f, Option.bind_some, h1, Int.natCast_nonneg, if_true, wrap_up hi hl]
      exact ih () trivial
    · intro ys hI
      apply Ev.succ
      simp only [laws_eqVersionS.l0, Int.lt_irrefl, if_false]
      exact Ev.now _
  unfold laws_eqVersionS.f
  simp only [if_true]
  exact h

theorem ev_eqWriteS (l : List S133) (hl : l.length ≤ 9223372036854775807) : Ev (fun k => laws_eqWriteS.f k l l) true := by
  have h : Ev (fun k => laws_eqWriteS.l0 k l l ((0 : Nat) : Int)) true := by
    refine ev_up (σ := Unit) (fun _ i k => laws_eqWriteS.l0 k l l (i : Int)) l.length (fun _ _ => True) (fun _ _ => true) ?_ ?_ () 0 (Nat.zero_le _) trivial
    · intro ys i hi hI ih
      apply Ev.succ
      have h1 : (i : Int) < (l.length : Int) := by omega
      simp only [laws_eqWriteS.l0, laws_eqWrite.f, Option.bind_some, h1, Int.natCast_nonneg, if_true, wrap_up hi hl]
      exact ih () trivial
    · intro ys hI
      apply Ev.succ
      simp only [laws_eqWriteS.l0, Int.lt_irrefl, if_false]
      exact Ev.now _
  unfold laws_eqWriteS.f
  simp only [if_true]
  exact h

theorem sz_VersionSS (l : List (List S207)) (a : Int) (h0 : 0 ≤ a) (h1 : a ≤ 1048576) (hl : l.length ≤ 9223372036854775807) (hg : ∀ e ∈ l, e.length ≤ 9223372036854775807) : ∃ r, Ev (fun k => laws_szVersionSS.f k l a) r ∧ r ≤ a ∧ (0 ≤ r → (l.length ≤ 1048576 ∧ ∀ e ∈ l, e.length ≤ 1048576)) := by
  unfold laws_szVersionSS.f
  rw [wrap_in (by omega) (by omega)]
  by_cases h : a - (l.length : Int) < 0
  · simp only [h, if_true]; exact ⟨-1, Ev.now _, by omega, fun h => absurd h (by omega)⟩
  simp only [h, if_false]
  refine ev_to (σ := Int) (fun s i k => laws_szVersionSS.l0 k l s (i : Int)) l.length (fun s i => 0 ≤ s ∧ s ≤ a ∧ ∀ j (hj : j < l.length), j < i → l[j].length ≤ 1048576) (fun r => r ≤ a ∧ (0 ≤ r → (l.length ≤ 1048576 ∧ ∀ e ∈ l, e.length ≤ 1048576))) ?_ ?_ (a - (l.length : Int)) 0 (Nat.zero_le _) ⟨by omega, by omega, fun j hj h => absurd h (by omega)⟩
  · intro s i hi ⟨hs, hsa, hI⟩ ih
    have h2 : (i : Int) < (l.length : Int) := by omega
    have hrd : rd_L2 l (i : Int) = l[i] := by simp [rd_L2, hi]
    obtain ⟨r, e, hr, hf⟩ := szx_Version (rd_L2 l (i : Int)) s hs (by omega) (by rw [hrd]; exact hg _ (List.getElem_mem hi))
    by_cases c : r < 0
    · refine ⟨-1, Ev.succ ?_, by omega, fun h => absurd h (by omega)⟩
      simp only [laws_szVersionSS.l0, h2, Int.natCast_nonneg, if_true]
      exact Ev.bind e (by simp only [c, if_true]; exact Ev.now _)
    · obtain ⟨r', e', h'⟩ := ih r ⟨by omega, by omega, fun j hj hji => if hh : j < i then hI j hj hh else by obtain rfl : j = i := (by omega); rw [← hrd]; exact hf (by omega)⟩
      refine ⟨r', Ev.succ ?_, h'⟩
      simp only [laws_szVersionSS.l0, h2, Int.natCast_nonneg, if_true]
      exact Ev.bind e (by simp only [c, if_false, wrap_up hi (by omega)]; exact e')
  · intro s ⟨hs, hsa, hI⟩
    refine ⟨s, Ev.succ ?_, hsa, fun _ => ⟨by omega, fun e he => ?_⟩⟩
    · simp only [laws_szVersionSS.l0, Int.lt_irrefl, if_false]; exact Ev.now _
    · obtain ⟨j, hj, rfl⟩ := List.getElem_of_mem he
      exact hI j hj hj

theorem ev_toVersionSS (l : List (List S207)) (h : l.length ≤ 1048576 ∧ ∀ e ∈ l, e.length ≤ 1048576) : Ev (fun k => laws_toVersionSS.f k l) (l.map (List.map cvVersion)) := by
  have hl := h.1
  have hh : Ev (fun k => laws_toVersionSS.l0 k l (List.replicate l.length []) ((0 : Nat) : Int)) (l.map (List.map cvVersion)) := by
    refine ev_up (σ := List (List S76)) (fun ys i k => laws_toVersionSS.l0 k l ys (i : Int)) l.length (fun ys i => Filled (l.map (List.map cvVersion)) ys i) (fun _ _ => l.map (List.map cvVersion)) ?_ ?_ (List.replicate l.length []) 0 (Nat.zero_le _) (Filled.start _ _ (by simp))
    · intro ys i hi hI ih
      apply Ev.succ
      have h1 : (i : Int) < (l.length : Int) := by omega
      have h2 : (i : Int) < (ys.length : Int) := by have := hI.1; simp at this; omega
      have hrd : rd_L2 l (i : Int) = l[i] := by simp [rd_L2, hi]
      simp only [laws_toVersionSS.l0, h1, Int.natCast_nonneg, if_true]
      refine Ev.bind (ev_toVersionS _ (by rw [hrd]; exact h.2 _ (List.getElem_mem hi))) ?_
      simp only [h2, if_true, Int.toNat_natCast, wrap_up hi (by omega)]
      exact ih _ (hI.step (by simpa using hi) (by simp [hrd]))
    · intro ys hI
      apply Ev.succ
      simp only [laws_toVersionSS.l0, Int.lt_irrefl, if_false]
      exact Ev.some (Filled.done (by simpa using hI))
  unfold laws_toVersionSS.f
  have h3 : ((l.length : Int) : Int).toNat ≤ 11728124029610 := by omega
  simp only [Int.natCast_nonneg, if_true, h3]
  simpa using hh

theorem ev_eqVersionSS (l : List (List S76)) (h : l.length ≤ 1048576 ∧ ∀ e ∈ l, e.length ≤ 1048576) : Ev (fun k => laws_eqVersionSS.f k l l) true := by
  have hl := h.1
  have hh : Ev (fun k => laws_eqVersionSS.l0 k l l ((0 : Nat) : Int)) true := by
    refine ev_up (σ := Unit) (fun _ i k => laws_eqVersionSS.l0 k l l (i : Int)) l.length (fun _ _ => True) (fun _ _ => true) ?_ ?_ () 0 (Nat.zero_le _) trivial
    · intro ys i hi hI ih
      apply Ev.succ
      have h1 : (i : Int) < (l.length : Int) := by omega
      have hrd : rd_L6 l (i : Int) = l[i] := by simp [rd_L6, hi]
      simp only [laws_eqVersionSS.l0, h1, Int.natCast_nonneg, if_true]
      refine Ev.bind (ev_eqVersionS _ (by rw [hrd]; have := h.2 _ (List.getElem_mem hi); omega)) ?_
      simp only [if_true, wrap_up hi (by omega)]
      exact ih () trivial
    · intro ys hI
      apply Ev.succ
      simp only [laws_eqVersionSS.l0, Int.lt_irrefl, if_false]
      exact Ev.now _
  unfold laws_eqVersionSS.f
  simp only [if_true]
  exact hh


theorem l1In_eq (a b c : Int) : spec_l1In.f a b c = some (decide (b ≤ a) && decide (a ≤ c)) := by
  by_cases h : b ≤ a <;> simp [spec_l1In.f, h]
theorem in_eq (a b c : Int) : impl_in.f a b c = some (decide (b ≤ a) && decide (a ≤ c)) := by
  by_cases h : b ≤ a <;> simp [impl_in.f, h]
theorem ex_succ {α : Type} {g : Nat → Option α} {P : α → Prop} (h : ∃ r, Ev (fun k => g (k + 1)) r ∧ P r) : ∃ r, Ev g r ∧ P r := by
  obtain ⟨r, a, b⟩ := h
  exact ⟨r, Ev.succ a, b⟩
theorem ex_ite {α : Type} {c : Prop} [Decidable c] {f g : Nat → Option α} {P : α → Prop} (h1 : c → ∃ r, Ev f r ∧ P r) (h2 : ¬ c → ∃ r, Ev g r ∧ P r) : ∃ r, Ev (fun k => if c then f k else g k) r ∧ P r := by
  by_cases h : c
  · simpa only [if_pos h] using h1 h
  · simpa only [if_neg h] using h2 h
theorem ex_now {α : Type} {x : α} {P : α → Prop} (h : P x) : ∃ r, Ev (fun _ => some x) r ∧ P r := ⟨x, Ev.now _, h⟩
theorem ex_bind {α β : Type} {x : Option α} {a : α} (e : x = some a) {g : Nat → α → Option β} {P : β → Prop} (h : ∃ r, Ev (fun k => g k a) r ∧ P r) : ∃ r, Ev (fun k => x.bind (g k)) r ∧ P r := by
  subst e; exact h
theorem ex_bindE {α β : Type} {f : Nat → Option α} {a : α} (e : Ev f a) {g : Nat → α → Option β} {P : β → Prop} (h : ∃ r, Ev (fun k => g k a) r ∧ P r) : ∃ r, Ev (fun k => (f k).bind (g k)) r ∧ P r := by
  obtain ⟨r, h1, h2⟩ := h
  exact ⟨r, Ev.bind e h1, h2⟩
theorem compare_eq (a b : Int) : cmp_Compare_int.f a b = some (if a < b then -1 else if a > b then 1 else 0) := by
  by_cases h : a < b <;> by_cases h' : a > b <;> simp [cmp_Compare_int.f, cmp_isNaN_int.f, h, h']
theorem ev_or (x y : Int) : Ev (fun k => cmp_Or_int.f k [x, y]) (if x = 0 then y else x) := by
  show Ev (fun k => cmp_Or_int.l0 k 0 [x, y] (2 : Int) 0) _
  apply Ev.succ
  by_cases hx : x = 0
  · simp only [cmp_Or_int.l0, hx, rd, wrap64, if_true]
    apply Ev.succ
    by_cases hy : y = 0
    · subst hy
      simp [cmp_Or_int.l0, rd, wrap64]
      apply Ev.succ
      simp [cmp_Or_int.l0]; exact Ev.now _
    · simp [cmp_Or_int.l0, rd, wrap64, hy]; exact Ev.now _
  · simp [cmp_Or_int.l0, rd, hx]; exact Ev.now _
theorem ev_cmp (a b c d : Int) : ∃ v, Ev (fun k => impl_compareMarks.f k a b c d) v ∧ spec_l5Before.f a b c d = some (decide (v < 0)) := by
  refine ⟨if (if a < c then -1 else if a > c then 1 else 0) = (0 : Int) then (if b < d then -1 else if b > d then 1 else 0) else (if a < c then -1 else if a > c then 1 else 0), ?_, ?_⟩
  · unfold impl_compareMarks.f
    simp only [compare_eq, Option.bind_some]
    exact Ev.bind (ev_or _ _) (Ev.now _)
  · unfold spec_l5Before.f
    by_cases h1 : a < c
    · simp [h1]
    · by_cases h2 : a > c
      · have h3 : ¬ a = c := by omega
        simp [h1, h2, h3]
      · have h3 : a = c := by omega
        by_cases h4 : b < d
        · simp [h3, h4]
        · by_cases h5 : b > d <;> simp [h3, h4, h5]
theorem both_reads (a0 a1 a2 a3 a4 a5 a6 : Int) (rs : List S165) (ws : List S133) (hl : rs.length ≤ 1048576) (r : Bool) (hr : Ev (fun k => spec_IsValidTransaction.l1 k 0 a0 a1 a2 a3 a4 a5 a6 rs ws) r) :
    ∃ x y, Ev (fun k => impl_areReads.f k rs) x ∧ Ev (fun k => spec_IsValidTransaction.l0 k ((0 : Nat) : Int) a0 a1 a2 a3 a4 a5 a6 rs ws) y ∧ ∃ rb : Bool, x = (rb && decide ((rs.length : Int) ≤ 60)) ∧ y = (rb && r) := by
  refine ev_two (σ := Unit) (τ := Unit) (fun _ i k => impl_areReads.l0 k rs rs (rs.length : Int) (i : Int)) (fun _ i k => spec_IsValidTransaction.l0 k (i : Int) a0 a1 a2 a3 a4 a5 a6 rs ws) rs.length (fun _ _ _ => True) (fun x y => ∃ rb : Bool, x = (rb && decide ((rs.length : Int) ≤ 60)) ∧ y = (rb && r)) ?_ ?_ () () 0 (Nat.zero_le _) trivial
  · intro _ _ i hi _ ih
    have h1 : (i : Int) < (rs.length : Int) := by omega
    have e0 := wrap_up hi (by omega)
    obtain ⟨x, y, hx, hy, rb, rfl, rfl⟩ := ih () () trivial
    have iT : Ev (fun k => impl_areReads.j1 k rs (i : Int) rs (rs.length : Int) true) false := Ev.succ (by simp only [impl_areReads.j1, if_true]; exact Ev.now _)
    have sT : Ev (fun k => spec_IsValidTransaction.j1 k (i : Int) true a0 a1 a2 a3 a4 a5 a6 rs ws) false := Ev.succ (by simp only [spec_IsValidTransaction.j1, if_true]; exact Ev.now _)
    have iF : Ev (fun k => impl_areReads.j1 k rs (i : Int) rs (rs.length : Int) false) (rb && decide ((rs.length : Int) ≤ 60)) := Ev.succ (by simp only [impl_areReads.j1, Bool.false_eq_true, if_false, e0]; exact hx)
    have sF : Ev (fun k => spec_IsValidTransaction.j1 k (i : Int) false a0 a1 a2 a3 a4 a5 a6 rs ws) (rb && r) := Ev.succ (by simp only [spec_IsValidTransaction.j1, Bool.false_eq_true, if_false, e0]; exact hy)
    by_cases ck : (decide (0 ≤ (rd_T165 rs (i : Int)).f0) && decide ((rd_T165 rs (i : Int)).f0 ≤ 5)) = true
    rotate_left 1
    · refine ⟨false, false, Ev.succ ?_, Ev.succ ?_, false, by simp, by simp⟩
      · simp only [impl_areReads.l0, impl_isKey.f, in_eq, h1, ck, Int.natCast_nonneg, if_true, if_false, Option.bind_some]; exact iT
      · simp only [spec_IsValidTransaction.l0, l1In_eq, h1, ck, Int.natCast_nonneg, if_true, if_false, Option.bind_some]; exact sT
    by_cases cc : (decide (0 ≤ (rd_T165 rs (i : Int)).f1) && decide ((rd_T165 rs (i : Int)).f1 ≤ 999)) = true
    rotate_left 1
    · refine ⟨false, false, Ev.succ ?_, Ev.succ ?_, false, by simp, by simp⟩
      · simp only [impl_areReads.l0, impl_isKey.f, in_eq, h1, ck, cc, Int.natCast_nonneg, if_true, if_false, Option.bind_some]; exact iT
      · simp only [spec_IsValidTransaction.l0, l1In_eq, h1, ck, cc, Int.natCast_nonneg, if_true, if_false, Option.bind_some]; exact sT
    by_cases h0 : 0 < i
    · have e1 : wrap64 ((i : Int) - 1) = ((i - 1 : Nat) : Int) := wrap_down h0 (by omega)
      have h2 : ((i - 1 : Nat) : Int) < (rs.length : Int) := by omega
      have h3 : (i : Int) > 0 := by omega
      obtain ⟨v, ev, hb⟩ := ev_cmp (rd_T165 rs ((i - 1 : Nat) : Int)).f0 (rd_T165 rs ((i - 1 : Nat) : Int)).f1 (rd_T165 rs (i : Int)).f0 (rd_T165 rs (i : Int)).f1
      by_cases hv : v < 0
      · have hv' : ¬ v ≥ 0 := by omega
        refine ⟨(rb && decide ((rs.length : Int) ≤ 60)), (rb && r), Ev.succ ?_, Ev.succ ?_, rb, rfl, rfl⟩
        · simp only [impl_areReads.l0, impl_isKey.f, in_eq, h1, h2, h3, e1, ck, cc, Int.natCast_nonneg, if_true, Option.bind_some]
          refine Ev.bind ev ?_
          simp only [hv', decide_false]; exact iF
        · simp only [spec_IsValidTransaction.l0, l1In_eq, hb, hv, h1, h2, h3, e1, ck, cc, Int.natCast_nonneg, if_true, Option.bind_some, decide_true, Bool.not_true]; exact sF
      · have hv' : v ≥ 0 := by omega
        refine ⟨false, false, Ev.succ ?_, Ev.succ ?_, false, by simp, by simp⟩
        · simp only [impl_areReads.l0, impl_isKey.f, in_eq, h1, h2, h3, e1, ck, cc, Int.natCast_nonneg, if_true, Option.bind_some]
          refine Ev.bind ev ?_
          simp only [hv', decide_true]; exact iT
        · simp only [spec_IsValidTransaction.l0, l1In_eq, hb, hv, h1, h2, h3, e1, ck, cc, Int.natCast_nonneg, if_true, Option.bind_some, decide_false, Bool.not_false]; exact sT
    · have h3 : ¬ (i : Int) > 0 := by omega
      refine ⟨(rb && decide ((rs.length : Int) ≤ 60)), (rb && r), Ev.succ ?_, Ev.succ ?_, rb, rfl, rfl⟩
      · simp only [impl_areReads.l0, impl_isKey.f, in_eq, h1, h3, ck, cc, Int.natCast_nonneg, if_true, if_false, Option.bind_some]; exact iF
      · simp only [spec_IsValidTransaction.l0, l1In_eq, h1, h3, ck, cc, Int.natCast_nonneg, if_true, if_false, Option.bind_some]; exact sF
  · intro _ _ _
    refine ⟨decide ((rs.length : Int) ≤ 60), r, Ev.succ ?_, Ev.succ ?_, true, (Bool.true_and _).symm, (Bool.true_and _).symm⟩
    · simp only [impl_areReads.l0, Int.lt_irrefl, if_false]; exact Ev.now _
    · simp only [spec_IsValidTransaction.l0, Int.lt_irrefl, if_false]; exact hr
def tailOf (a0 a1 a2 a3 a4 a5 a6 : Int) (n : Int) : Bool :=
  ((decide (1 ≤ a0) && decide (a0 ≤ 9)) && ((decide (1 ≤ a1) && decide (a1 ≤ 4)) && (decide (0 ≤ a3) && decide (a3 ≤ 999)))) &&
  ((decide (1 ≤ a2) && decide (a2 ≤ 3)) && ((decide (0 ≤ a4) && decide (a4 ≤ 999)) && ((decide (1 ≤ a5) && decide (a5 ≤ 1000)) && (((a2 == 2) == decide (a6 > 0)) && ((decide (0 ≤ a6) && decide (a6 ≤ 999)) && decide (n ≤ 60))))))
theorem both_writes (a0 a1 a2 a3 a4 a5 a6 : Int) (rs : List S165) (ws : List S133) (hl : ws.length ≤ 1048576) :
    ∃ x y, Ev (fun k => impl_areWrites.f k ws) x ∧ Ev (fun k => spec_IsValidTransaction.l1 k ((0 : Nat) : Int) a0 a1 a2 a3 a4 a5 a6 rs ws) y ∧ y = (x && tailOf a0 a1 a2 a3 a4 a5 a6 (rs.length : Int)) := by
  refine ev_two (σ := Unit) (τ := Unit) (fun _ i k => impl_areWrites.l0 k ws ws (ws.length : Int) (i : Int)) (fun _ i k => spec_IsValidTransaction.l1 k (i : Int) a0 a1 a2 a3 a4 a5 a6 rs ws) ws.length (fun _ _ _ => True) (fun x y => y = (x && tailOf a0 a1 a2 a3 a4 a5 a6 (rs.length : Int))) ?_ ?_ () () 0 (Nat.zero_le _) trivial
  · intro _ _ i hi _ ih
    have h1 : (i : Int) < (ws.length : Int) := by omega
    have e0 := wrap_up hi (by omega)
    obtain ⟨x, y, hx, hy, rfl⟩ := ih () () trivial
    have iT : Ev (fun k => impl_areWrites.j1 k ws (i : Int) ws (ws.length : Int) true) false := Ev.succ (by simp only [impl_areWrites.j1, if_true]; exact Ev.now _)
    have sT : Ev (fun k => spec_IsValidTransaction.j3 k (i : Int) true a0 a1 a2 a3 a4 a5 a6 rs ws) false := Ev.succ (by simp only [spec_IsValidTransaction.j3, if_true]; exact Ev.now _)
    have iF : Ev (fun k => impl_areWrites.j1 k ws (i : Int) ws (ws.length : Int) false) x := Ev.succ (by simp only [impl_areWrites.j1, Bool.false_eq_true, if_false, e0]; exact hx)
    have sF : Ev (fun k => spec_IsValidTransaction.j3 k (i : Int) false a0 a1 a2 a3 a4 a5 a6 rs ws) (x && tailOf a0 a1 a2 a3 a4 a5 a6 (rs.length : Int)) := Ev.succ (by simp only [spec_IsValidTransaction.j3, Bool.false_eq_true, if_false, e0]; exact hy)
    by_cases ck : (decide (0 ≤ (rd_T133 ws (i : Int)).f0) && decide ((rd_T133 ws (i : Int)).f0 ≤ 5)) = true
    rotate_left 1
    · refine ⟨false, false, Ev.succ ?_, Ev.succ ?_, by simp⟩
      · simp only [impl_areWrites.l0, impl_isKey.f, in_eq, h1, ck, Int.natCast_nonneg, if_true, if_false, Option.bind_some]; exact iT
      · simp only [spec_IsValidTransaction.l1, l1In_eq, h1, ck, Int.natCast_nonneg, if_true, if_false, Option.bind_some]; exact sT
    by_cases cc : (decide (-1 ≤ (rd_T133 ws (i : Int)).f1) && decide ((rd_T133 ws (i : Int)).f1 ≤ 99)) = true
    rotate_left 1
    · refine ⟨false, false, Ev.succ ?_, Ev.succ ?_, by simp⟩
      · simp only [impl_areWrites.l0, impl_isKey.f, impl_isValue.f, in_eq, h1, ck, cc, Int.natCast_nonneg, if_true, if_false, Option.bind_some]; exact iT
      · simp only [spec_IsValidTransaction.l1, l1In_eq, h1, ck, cc, Int.natCast_nonneg, if_true, if_false, Option.bind_some]; exact sT
    by_cases h0 : 0 < i
    · have e1 : wrap64 ((i : Int) - 1) = ((i - 1 : Nat) : Int) := wrap_down h0 (by omega)
      have h2 : ((i - 1 : Nat) : Int) < (ws.length : Int) := by omega
      have h3 : (i : Int) > 0 := by omega
      by_cases hv : (rd_T133 ws ((i - 1 : Nat) : Int)).f0 ≥ (rd_T133 ws (i : Int)).f0
      · refine ⟨false, false, Ev.succ ?_, Ev.succ ?_, by simp⟩
        · simp only [impl_areWrites.l0, impl_isKey.f, impl_isValue.f, in_eq, h1, h2, h3, e1, hv, ck, cc, Int.natCast_nonneg, if_true, Option.bind_some, decide_true]; exact iT
        · simp only [spec_IsValidTransaction.l1, l1In_eq, h1, h2, h3, e1, hv, ck, cc, Int.natCast_nonneg, if_true, Option.bind_some, decide_true]; exact sT
      · refine ⟨x, (x && tailOf a0 a1 a2 a3 a4 a5 a6 (rs.length : Int)), Ev.succ ?_, Ev.succ ?_, rfl⟩
        · simp only [impl_areWrites.l0, impl_isKey.f, impl_isValue.f, in_eq, h1, h2, h3, e1, hv, ck, cc, Int.natCast_nonneg, if_true, Option.bind_some, decide_false]; exact iF
        · simp only [spec_IsValidTransaction.l1, l1In_eq, h1, h2, h3, e1, hv, ck, cc, Int.natCast_nonneg, if_true, Option.bind_some, decide_false]; exact sF
    · have h3 : ¬ (i : Int) > 0 := by omega
      refine ⟨x, (x && tailOf a0 a1 a2 a3 a4 a5 a6 (rs.length : Int)), Ev.succ ?_, Ev.succ ?_, rfl⟩
      · simp only [impl_areWrites.l0, impl_isKey.f, impl_isValue.f, in_eq, h1, h3, ck, cc, Int.natCast_nonneg, if_true, if_false, Option.bind_some]; exact iF
      · simp only [spec_IsValidTransaction.l1, l1In_eq, h1, h3, ck, cc, Int.natCast_nonneg, if_true, if_false, Option.bind_some]; exact sF
  · intro _ _ _
    refine ⟨true, tailOf a0 a1 a2 a3 a4 a5 a6 (rs.length : Int), Ev.succ ?_, Ev.succ ?_, (Bool.true_and _).symm⟩
    · simp only [impl_areWrites.l0, Int.lt_irrefl, if_false]; exact Ev.now _
    · have jT : Ev (fun k => spec_IsValidTransaction.j4 k true a0 a1 a2 a3 a4 a5 a6 rs ws) false := Ev.succ (by simp only [spec_IsValidTransaction.j4, if_true]; exact Ev.now _)
      have jF : Ev (fun k => spec_IsValidTransaction.j4 k false a0 a1 a2 a3 a4 a5 a6 rs ws) ((decide (1 ≤ a2) && decide (a2 ≤ 3)) && ((decide (0 ≤ a4) && decide (a4 ≤ 999)) && ((decide (1 ≤ a5) && decide (a5 ≤ 1000)) && (((a2 == 2) == decide (a6 > 0)) && ((decide (0 ≤ a6) && decide (a6 ≤ 999)) && decide ((rs.length : Int) ≤ 60)))))) := by
        apply Ev.succ
        simp only [spec_IsValidTransaction.j4, Bool.false_eq_true, if_false, l1In_eq, Option.bind_some]
        generalize (decide (1 ≤ a2) && decide (a2 ≤ 3)) = b2
        generalize (decide (0 ≤ a4) && decide (a4 ≤ 999)) = b4
        generalize (decide (1 ≤ a5) && decide (a5 ≤ 1000)) = b5
        generalize ((a2 == 2) == decide (a6 > 0)) = b6
        generalize (decide (0 ≤ a6) && decide (a6 ≤ 999)) = b7
        cases b2 <;> cases b4 <;> cases b5 <;> cases b6 <;> cases b7 <;> simp only [Bool.false_eq_true, if_false, if_true, Bool.false_and, Bool.true_and] <;> exact Ev.now _
      simp only [spec_IsValidTransaction.l1, Int.lt_irrefl, if_false, l1In_eq, Option.bind_some]
      unfold tailOf
      revert jF
      generalize ((decide (1 ≤ a2) && decide (a2 ≤ 3)) && ((decide (0 ≤ a4) && decide (a4 ≤ 999)) && ((decide (1 ≤ a5) && decide (a5 ≤ 1000)) && (((a2 == 2) == decide (a6 > 0)) && ((decide (0 ≤ a6) && decide (a6 ≤ 999)) && decide ((rs.length : Int) ≤ 60)))))) = bt
      intro jF
      generalize (decide (1 ≤ a0) && decide (a0 ≤ 9)) = b0
      generalize (decide (1 ≤ a1) && decide (a1 ≤ 4)) = b1
      generalize (decide (0 ≤ a3) && decide (a3 ≤ 999)) = b3
      cases b0 <;> cases b1 <;> cases b3 <;> simp only [Bool.false_eq_true, if_false, if_true, Bool.false_and, Bool.true_and, Bool.not_true, Bool.not_false, Bool.and_false, Bool.and_true] <;> first | exact jT | exact jF
theorem both_IsValidTransaction (a0 a1 a2 a3 a4 a5 a6 : Int) (rs : List S165) (ws : List S133) (hl : rs.length ≤ 1048576) (hw : ws.length ≤ 1048576) :
    ∃ b : Bool, Ev (fun k => spec_IsValidTransaction.f k a0 a1 a2 a3 a4 a5 a6 rs ws) b ∧ Ev (fun k => impl_IsValidTransaction.f k a0 a1 a2 a3 a4 a5 a6 rs ws) b ∧ (b = true → (a2 = 2 ∨ a6 = 0)) := by
  obtain ⟨wb, y1, hwi, hws, rfl⟩ := both_writes a0 a1 a2 a3 a4 a5 a6 rs ws hw
  obtain ⟨x, y, hri, hrs, rb, rfl, rfl⟩ := both_reads a0 a1 a2 a3 a4 a5 a6 rs ws hl _ hws
  have hc : (((a2 == 2) == decide (a6 > 0)) && (decide (0 ≤ a6) && decide (a6 ≤ 999))) = (if a2 = 2 then (decide (1 ≤ a6) && decide (a6 ≤ 999)) else (a6 == 0)) := by
    by_cases c2 : a2 = 2
    · by_cases d1 : 1 ≤ a6
      · have d0 : a6 > 0 := by omega
        have d3 : 0 ≤ a6 := by omega
        simp [c2, d1, d0, d3]
      · have d0 : ¬ a6 > 0 := by omega
        simp [c2, d1, d0]
    · by_cases d1 : a6 = 0
      · simp [c2, d1]
      · by_cases d0 : a6 > 0
        · have e2 : (a2 == 2) = false := by simpa using c2
          have e6 : (a6 == 0) = false := by simpa using d1
          simp [c2, e2, e6, d0]
        · have d3 : ¬ 0 ≤ a6 := by omega
          simp [c2, d1, d0, d3]
  have jT : Ev (fun k => impl_IsValidTransaction.j0 k true a0 a1 a2 a3 a4 a5 a6 rs ws) false := Ev.succ (by simp only [impl_IsValidTransaction.j0, if_true]; exact Ev.now _)
  have kT : Ev (fun k => impl_IsValidTransaction.j1 k true a0 a1 a2 a3 a4 a5 a6 rs ws) false := Ev.succ (by simp only [impl_IsValidTransaction.j1, if_true]; exact Ev.now _)
  have kF : Ev (fun k => impl_IsValidTransaction.j1 k false a0 a1 a2 a3 a4 a5 a6 rs ws) ((rb && decide ((rs.length : Int) ≤ 60)) && wb) := by
    apply Ev.succ
    simp only [impl_IsValidTransaction.j1, Bool.false_eq_true, if_false]
    refine Ev.bind hri ?_
    cases (rb && decide ((rs.length : Int) ≤ 60))
    · simp only [Bool.false_eq_true, if_false, Bool.false_and]; exact Ev.now _
    · simp only [if_true, Bool.true_and]; exact Ev.bind hwi (Ev.now _)
  have jF : Ev (fun k => impl_IsValidTransaction.j0 k false a0 a1 a2 a3 a4 a5 a6 rs ws) ((if a2 = 2 then (decide (1 ≤ a6) && decide (a6 ≤ 999)) else (a6 == 0)) && ((rb && decide ((rs.length : Int) ≤ 60)) && wb)) := by
    apply Ev.succ
    simp only [impl_IsValidTransaction.j0, impl_IsStamp.f, in_eq, Bool.false_eq_true, if_false, Option.bind_some]
    by_cases c2 : a2 = 2
    · simp only [c2, if_true]
      rw [c2] at kT kF
      cases (decide (1 ≤ a6) && decide (a6 ≤ 999))
      · simp only [Bool.false_eq_true, if_false, Bool.false_and]; exact kT
      · simp only [if_true, Bool.true_and]; exact kF
    · simp only [c2, if_false]
      by_cases c6 : a6 = 0
      · have : (a6 != 0) = false := by simp [c6]
        have h6 : (a6 == 0) = true := by simp [c6]
        simp only [this, h6, Bool.true_and]; exact kF
      · have : (a6 != 0) = true := by simp [c6]
        have h6 : (a6 == 0) = false := by simp [c6]
        simp only [this, h6, Bool.false_and]; exact kT
  have hi : Ev (fun k => impl_IsValidTransaction.f k a0 a1 a2 a3 a4 a5 a6 rs ws) ((decide (1 ≤ a0) && decide (a0 ≤ 9)) && ((decide (1 ≤ a1) && decide (a1 ≤ 4)) && ((decide (1 ≤ a2) && decide (a2 ≤ 3)) && ((decide (0 ≤ a3) && decide (a3 ≤ 999)) && ((decide (0 ≤ a4) && decide (a4 ≤ 999)) && ((decide (1 ≤ a5) && decide (a5 ≤ 1000)) && ((if a2 = 2 then (decide (1 ≤ a6) && decide (a6 ≤ 999)) else (a6 == 0)) && ((rb && decide ((rs.length : Int) ≤ 60)) && wb)))))))) := by
    revert jF
    generalize ((if a2 = 2 then (decide (1 ≤ a6) && decide (a6 ≤ 999)) else (a6 == 0)) && ((rb && decide ((rs.length : Int) ≤ 60)) && wb)) = bt
    intro jF
    unfold impl_IsValidTransaction.f
    simp only [impl_isID.f, impl_isScheme.f, in_eq, Option.bind_some]
    generalize (decide (1 ≤ a0) && decide (a0 ≤ 9)) = b0
    generalize (decide (1 ≤ a1) && decide (a1 ≤ 4)) = b1
    generalize (decide (1 ≤ a2) && decide (a2 ≤ 3)) = b2
    generalize (decide (0 ≤ a3) && decide (a3 ≤ 999)) = b3
    generalize (decide (0 ≤ a4) && decide (a4 ≤ 999)) = b4
    generalize (decide (1 ≤ a5) && decide (a5 ≤ 1000)) = b5
    cases b0 <;> cases b1 <;> cases b2 <;> cases b3 <;> cases b4 <;> cases b5 <;> simp only [Bool.false_eq_true, if_false, if_true, Bool.false_and, Bool.true_and, Bool.not_true, Bool.not_false, Bool.and_false, Bool.and_true] <;> first | exact jT | exact jF
  refine ⟨_, hrs, ?_, ?_⟩
  · have he : (rb && (wb && tailOf a0 a1 a2 a3 a4 a5 a6 (rs.length : Int))) = _ := rfl
    have heq : (rb && (wb && tailOf a0 a1 a2 a3 a4 a5 a6 (rs.length : Int))) = ((decide (1 ≤ a0) && decide (a0 ≤ 9)) && ((decide (1 ≤ a1) && decide (a1 ≤ 4)) && ((decide (1 ≤ a2) && decide (a2 ≤ 3)) && ((decide (0 ≤ a3) && decide (a3 ≤ 999)) && ((decide (0 ≤ a4) && decide (a4 ≤ 999)) && ((decide (1 ≤ a5) && decide (a5 ≤ 1000)) && ((if a2 = 2 then (decide (1 ≤ a6) && decide (a6 ≤ 999)) else (a6 == 0)) && ((rb && decide ((rs.length : Int) ≤ 60)) && wb)))))))) := by
      rw [← hc]
      unfold tailOf
      generalize (decide (1 ≤ a0) && decide (a0 ≤ 9)) = b0
      generalize (decide (1 ≤ a1) && decide (a1 ≤ 4)) = b1
      generalize (decide (1 ≤ a2) && decide (a2 ≤ 3)) = b2
      generalize (decide (0 ≤ a3) && decide (a3 ≤ 999)) = b3
      generalize (decide (0 ≤ a4) && decide (a4 ≤ 999)) = b4
      generalize (decide (1 ≤ a5) && decide (a5 ≤ 1000)) = b5
      generalize ((a2 == 2) == decide (a6 > 0)) = b6
      generalize (decide (0 ≤ a6) && decide (a6 ≤ 999)) = b7
      generalize decide ((rs.length : Int) ≤ 60) = b8
      cases b0 <;> cases b1 <;> cases b2 <;> cases b3 <;> cases b4 <;> cases b5 <;> cases b6 <;> cases b7 <;> cases b8 <;> cases rb <;> cases wb <;> rfl
    rw [heq]; exact hi
  · intro hb
    simp only [tailOf, Bool.and_eq_true] at hb
    obtain ⟨_, _, _, _, _, _, h6, h7, _⟩ := hb
    by_cases c2 : a2 = 2
    · exact .inl c2
    · have hcc := hc
      rw [h6, Bool.true_and, if_neg c2] at hcc
      have : (decide (0 ≤ a6) && decide (a6 ≤ 999)) = true := by simp only [Bool.and_eq_true]; exact h7
      rw [this] at hcc
      exact .inr (by simpa using hcc.symm)
def vok (a0 a1 a2 a3 a4 : Int) : Bool := (decide (-1 ≤ a1) && decide (a1 ≤ 99)) && ((decide (0 ≤ a2) && decide (a2 ≤ 999)) && ((decide (a2 ≤ a3) && decide (a3 ≤ 999)) && ((decide (1 ≤ a4) && decide (a4 ≤ 1000)) && (if a2 = 0 then (if a0 = 0 then (a1 == -1) else false) else (decide (1 ≤ a0) && decide (a0 ≤ 9))))))
theorem version_both (a0 a1 a2 a3 a4 : Int) : Ev (fun k => spec_IsValidVersion.f k a0 a1 a2 a3 a4) (vok a0 a1 a2 a3 a4) ∧ Ev (fun k => impl_IsValidVersion.f k a0 a1 a2 a3 a4) (vok a0 a1 a2 a3 a4) := by
  have jS : ∀ t : Bool, Ev (fun k => spec_IsValidVersion.j0 k t a0 a1 a2 a3 a4) (!t && (if a2 = 0 then (if a0 = 0 then (a1 == -1) else false) else (decide (1 ≤ a0) && decide (a0 ≤ 9)))) := by
    intro t
    apply Ev.succ
    cases t
    · simp only [spec_IsValidVersion.j0, l1In_eq, Bool.false_eq_true, if_false, Option.bind_some, Bool.not_false, Bool.true_and]
      by_cases c : a2 = 0 <;> by_cases d : a0 = 0 <;> simp only [c, d, if_true, if_false] <;> exact Ev.now _
    · simp only [spec_IsValidVersion.j0, if_true, Bool.not_true, Bool.false_and]; exact Ev.now _
  have jI : ∀ t : Bool, Ev (fun k => impl_IsValidVersion.j0 k t a0 a1 a2 a3 a4) (!t && (if a2 = 0 then (if a0 = 0 then (a1 == -1) else false) else (decide (1 ≤ a0) && decide (a0 ≤ 9)))) := by
    intro t
    apply Ev.succ
    cases t
    · simp only [impl_IsValidVersion.j0, impl_isID.f, in_eq, Bool.false_eq_true, if_false, Option.bind_some, Bool.not_false, Bool.true_and]
      by_cases c : a2 = 0 <;> by_cases d : a0 = 0 <;> simp only [c, d, if_true, if_false] <;> exact Ev.now _
    · simp only [impl_IsValidVersion.j0, if_true, Bool.not_true, Bool.false_and]; exact Ev.now _
  unfold vok
  revert jS jI
  generalize (if a2 = 0 then (if a0 = 0 then (a1 == -1) else false) else (decide (1 ≤ a0) && decide (a0 ≤ 9))) = v
  intro jS jI
  constructor
  · unfold spec_IsValidVersion.f
    simp only [l1In_eq, Option.bind_some]
    cases (decide (-1 ≤ a1) && decide (a1 ≤ 99)) <;> cases (decide (0 ≤ a2) && decide (a2 ≤ 999)) <;> cases (decide (a2 ≤ a3) && decide (a3 ≤ 999)) <;> cases (decide (1 ≤ a4) && decide (a4 ≤ 1000)) <;> simp only [Bool.false_eq_true, if_false, if_true, Bool.false_and, Bool.true_and] <;> first | exact jS true | exact jS false
  · unfold impl_IsValidVersion.f
    simp only [impl_isValue.f, in_eq, Option.bind_some]
    cases (decide (-1 ≤ a1) && decide (a1 ≤ 99)) <;> cases (decide (0 ≤ a2) && decide (a2 ≤ 999)) <;> cases (decide (a2 ≤ a3) && decide (a3 ≤ 999)) <;> cases (decide (1 ≤ a4) && decide (a4 ≤ 1000)) <;> simp only [Bool.false_eq_true, if_false, if_true, Bool.false_and, Bool.true_and] <;> first | exact jI true | exact jI false
theorem vok_stamp {a0 a1 a2 a3 a4 : Int} (h : vok a0 a1 a2 a3 a4 = true) : 0 ≤ a2 ∧ a2 ≤ 999 := by
  unfold vok at h
  simp only [Bool.and_eq_true, decide_eq_true_eq] at h
  exact h.2.1
def vat (l : List S76) (j : Nat) : Bool := vok (rd_T76 l (j : Int)).f0 (rd_T76 l (j : Int)).f1 (rd_T76 l (j : Int)).f2 (rd_T76 l (j : Int)).f3 (rd_T76 l (j : Int)).f4
def step (l : List S76) (j : Nat) : Prop := (rd_T76 l (j : Int)).f2 < (rd_T76 l ((j + 1 : Nat) : Int)).f2 ∧ (rd_T76 l (j : Int)).f4 ≤ (rd_T76 l ((j + 1 : Nat) : Int)).f2
def VC (l : List S76) : Prop := (∀ j : Nat, j < l.length → vat l j = true) ∧ (∀ j : Nat, j + 1 < l.length → step l j) ∧ 0 < l.length ∧ (rd_T76 l ((l.length - 1 : Nat) : Int)).f4 = 1000
theorem chain_spec (l : List S76) (hl : l.length ≤ 1048576) : ∃ r, Ev (fun k => spec_IsValidChain.f k l) r ∧ (r = true ↔ VC l) := by
  refine ev_to (σ := Unit) (fun _ i k => spec_IsValidChain.l0 k l (i : Int)) l.length (fun _ i => (∀ j, j < i → vat l j = true) ∧ ∀ j, j < i → j + 1 < l.length → step l j) (fun r => r = true ↔ VC l) ?_ ?_ () 0 (Nat.zero_le _) ⟨fun j hj => absurd hj (by omega), fun j hj => absurd hj (by omega)⟩
  · rintro _ i hi ⟨hv, hs⟩ ih
    have h1 : (i : Int) < (l.length : Int) := by omega
    have e0 := wrap_up hi (by omega)
    have ev := (version_both (rd_T76 l (i : Int)).f0 (rd_T76 l (i : Int)).f1 (rd_T76 l (i : Int)).f2 (rd_T76 l (i : Int)).f3 (rd_T76 l (i : Int)).f4).1
    have hf : ∀ {P : Prop}, ¬ P → ((false = true) ↔ P) := fun h => ⟨fun h' => (nomatch h'), fun h' => absurd h' h⟩
    apply ex_succ
    simp only [spec_IsValidChain.l0]
    rw [e0]
    refine ex_ite (fun _ => ?_) (fun c => absurd h1 c)
    refine ex_ite (fun _ => ?_) (fun c => absurd (Int.natCast_nonneg i) c)
    refine ex_bindE ev ?_
    have hva : vat l i = vok (rd_T76 l (i : Int)).f0 (rd_T76 l (i : Int)).f1 (rd_T76 l (i : Int)).f2 (rd_T76 l (i : Int)).f3 (rd_T76 l (i : Int)).f4 := rfl
    refine ex_ite (fun c1 => ?_) (fun c1 => ex_now (hf (fun h => c1 (by rw [← hva]; exact h.1 i hi))))
    have hv' : ∀ j, j < i + 1 → vat l j = true := fun j hj => if hh : j < i then hv j hh else by obtain rfl : j = i := (by omega); rw [hva]; exact c1
    refine ex_ite (fun c2 => ?_) (fun c2 => ih () ⟨hv', fun j hj hjl => if hh : j < i then hs j hh hjl else by omega⟩)
    have c2' : i + 1 < l.length := by omega
    refine ex_ite (fun _ => ?_) (fun c => absurd (Int.natCast_nonneg _) c)
    refine ex_ite (fun c3 => ex_now (hf (fun h => by have := (h.2.1 i c2').1; omega))) (fun c3 => ?_)
    refine ex_ite (fun c4 => ex_now (hf (fun h => by have := (h.2.1 i c2').2; omega))) (fun c4 => ?_)
    exact ih () ⟨hv', fun j hj hjl => if hh : j < i then hs j hh hjl else by obtain rfl : j = i := (by omega); exact ⟨by omega, by omega⟩⟩
  · rintro _ ⟨hv, hs⟩
    have hf : ∀ {P : Prop}, ¬ P → ((false = true) ↔ P) := fun h => ⟨fun h' => (nomatch h'), fun h' => absurd h' h⟩
    apply ex_succ
    simp only [spec_IsValidChain.l0]
    refine ex_ite (fun c => absurd c (Int.lt_irrefl _)) (fun _ => ?_)
    refine ex_ite (fun c1 => ?_) (fun c1 => ex_now (hf (fun h => c1 (by have := h.2.2.1; omega))))
    have e1 : wrap64 ((l.length : Int) - 1) = ((l.length - 1 : Nat) : Int) := wrap_down (by omega) (by omega)
    rw [e1]
    refine ex_ite (fun _ => ?_) (fun c => absurd (Int.natCast_nonneg _) c)
    refine ex_ite (fun _ => ex_now ?_) (fun c => absurd (by omega) c)
    rw [beq_iff_eq]
    exact ⟨fun h => ⟨hv, fun j hj => hs j (by omega) hj, by omega, h⟩, fun h => h.2.2.2⟩
theorem chain_impl (l : List S76) (hl : l.length ≤ 1048576) : ∃ r, Ev (fun k => impl_IsValidChain.f k l) r ∧ (r = true ↔ VC l) := by
  refine ev_to (σ := Unit) (fun _ i k => impl_IsValidChain.l0 k l l (l.length : Int) (i : Int)) l.length (fun _ i => (∀ j, j < i → vat l j = true) ∧ ∀ j, j + 1 < i → step l j) (fun r => r = true ↔ VC l) ?_ ?_ () 0 (Nat.zero_le _) ⟨fun j hj => absurd hj (by omega), fun j hj => absurd hj (by omega)⟩
  · rintro _ i hi ⟨hv, hs⟩ ih
    have h1 : (i : Int) < (l.length : Int) := by omega
    have e0 := wrap_up hi (by omega)
    have ev := (version_both (rd_T76 l (i : Int)).f0 (rd_T76 l (i : Int)).f1 (rd_T76 l (i : Int)).f2 (rd_T76 l (i : Int)).f3 (rd_T76 l (i : Int)).f4).2
    have hf : ∀ {P : Prop}, ¬ P → ((false = true) ↔ P) := fun h => ⟨fun h' => (nomatch h'), fun h' => absurd h' h⟩
    have hva : vat l i = vok (rd_T76 l (i : Int)).f0 (rd_T76 l (i : Int)).f1 (rd_T76 l (i : Int)).f2 (rd_T76 l (i : Int)).f3 (rd_T76 l (i : Int)).f4 := rfl
    apply ex_succ
    simp only [impl_IsValidChain.l0]
    rw [e0]
    refine ex_ite (fun _ => ?_) (fun c => absurd h1 c)
    refine ex_ite (fun _ => ?_) (fun c => absurd (Int.natCast_nonneg i) c)
    refine ex_ite (fun _ => ?_) (fun c => absurd h1 c)
    refine ex_bindE ev ?_
    refine ex_ite (fun c1 => ?_) (fun c1 => ex_now (hf (fun h => c1 (by rw [← hva]; exact h.1 i hi))))
    have hv' : ∀ j, j < i + 1 → vat l j = true := fun j hj => if hh : j < i then hv j hh else by obtain rfl : j = i := (by omega); rw [hva]; exact c1
    refine ex_ite (fun c2 => ?_) (fun c2 => ih () ⟨hv', fun j hj => if hh : j + 1 < i then hs j hh else by omega⟩)
    have e1 : wrap64 ((i : Int) - 1) = ((i - 1 : Nat) : Int) := wrap_down (by omega) (by omega)
    rw [e1]
    refine ex_ite (fun _ => ?_) (fun c => absurd (Int.natCast_nonneg _) c)
    refine ex_ite (fun _ => ?_) (fun c => absurd (by omega) c)
    have hst : ∀ h : VC l, step l (i - 1) := fun h => h.2.1 (i - 1) (by omega)
    have hi1 : i - 1 + 1 = i := by omega
    refine ex_ite (fun c3 => ex_now (hf (fun h => by have := (hst h).1; rw [hi1] at this; omega))) (fun c3 => ?_)
    refine ex_ite (fun c4 => ex_now (hf (fun h => by have := (hst h).2; rw [hi1] at this; omega))) (fun c4 => ?_)
    exact ih () ⟨hv', fun j hj => if hh : j + 1 < i then hs j hh else by obtain rfl : j = i - 1 := (by omega); exact ⟨by rw [hi1]; omega, by rw [hi1]; omega⟩⟩
  · rintro _ ⟨hv, hs⟩
    have hf : ∀ {P : Prop}, ¬ P → ((false = true) ↔ P) := fun h => ⟨fun h' => (nomatch h'), fun h' => absurd h' h⟩
    apply ex_succ
    simp only [impl_IsValidChain.l0]
    refine ex_ite (fun c => absurd c (Int.lt_irrefl _)) (fun _ => ?_)
    refine ex_ite (fun c1 => ?_) (fun c1 => ex_now (hf (fun h => c1 (by have := h.2.2.1; omega))))
    have e1 : wrap64 ((l.length : Int) - 1) = ((l.length - 1 : Nat) : Int) := wrap_down (by omega) (by omega)
    rw [e1]
    refine ex_ite (fun _ => ?_) (fun c => absurd (Int.natCast_nonneg _) c)
    refine ex_ite (fun _ => ex_now ?_) (fun c => absurd (by omega) c)
    rw [beq_iff_eq]
    exact ⟨fun h => ⟨hv, fun j hj => hs j (by omega), by omega, h⟩, fun h => h.2.2.2⟩
theorem store_both (l : List (List S76)) (hl : l.length ≤ 1048576) (he : ∀ e ∈ l, e.length ≤ 1048576) : ∃ r, Ev (fun k => spec_IsValidStore.f k l) r ∧ Ev (fun k => impl_IsValidStore.f k l) r ∧ (r = true ↔ (∀ e ∈ l, VC e ∧ e.length ≤ 50) ∧ l.length = 6) := by
  have hf : ∀ {P : Prop}, ¬ P → ((false = true) ↔ P) := fun h => ⟨fun h' => (nomatch h'), fun h' => absurd h' h⟩
  have hS : ∃ r, Ev (fun k => spec_IsValidStore.f k l) r ∧ (r = true ↔ (∀ e ∈ l, VC e ∧ e.length ≤ 50) ∧ l.length = 6) := by
    refine ev_to (σ := Unit) (fun _ i k => spec_IsValidStore.l0 k (i : Int) l) l.length (fun _ i => ∀ j (hj : j < l.length), j < i → VC l[j] ∧ l[j].length ≤ 50) (fun r => r = true ↔ (∀ e ∈ l, VC e ∧ e.length ≤ 50) ∧ l.length = 6) ?_ ?_ () 0 (Nat.zero_le _) (fun j _ hj => absurd hj (by omega))
    · intro _ i hi hI ih
      have h1 : (i : Int) < (l.length : Int) := by omega
      have hrd : rd_L6 l (i : Int) = l[i] := by simp [rd_L6, hi]
      obtain ⟨r, er, hr⟩ := chain_spec l[i] (he _ (List.getElem_mem hi))
      apply ex_succ
      simp only [spec_IsValidStore.l0]
      rw [wrap_up hi (by omega), hrd]
      refine ex_ite (fun _ => ?_) (fun c => absurd h1 c)
      refine ex_ite (fun _ => ?_) (fun c => absurd (Int.natCast_nonneg i) c)
      refine ex_bindE er ?_
      refine ex_ite (fun c1 => ?_) (fun c1 => ex_now (hf (fun h => c1 (hr.2 (h.1 _ (List.getElem_mem hi)).1))))
      have hvc := hr.1 c1
      have hnext : l[i].length ≤ 50 → ∀ j (hj : j < l.length), j < i + 1 → VC l[j] ∧ l[j].length ≤ 50 := fun h50 j hj hji => if hh : j < i then hI j hj hh else by obtain rfl : j = i := (by omega); exact ⟨hvc, h50⟩
      have hbig : (l[i].length : Int) > 50 → ¬ ((∀ e ∈ l, VC e ∧ e.length ≤ 50) ∧ l.length = 6) := fun h h' => by have := (h'.1 _ (List.getElem_mem hi)).2; omega
      refine ex_ite (fun _ => ?_) (fun c => absurd (by have := hvc.2.2.1; omega) c)
      exact ex_ite (fun _ => ex_ite (fun c => ex_now (hf (hbig c))) (fun c => ih () (hnext (by omega)))) (fun _ => ex_ite (fun c => ex_now (hf (hbig c))) (fun c => ih () (hnext (by omega))))
    · intro _ hI
      apply ex_succ
      simp only [spec_IsValidStore.l0]
      refine ex_ite (fun c => absurd c (Int.lt_irrefl _)) (fun _ => ex_now ?_)
      rw [beq_iff_eq]
      refine ⟨fun h => ⟨fun e hm => ?_, by omega⟩, fun h => by omega⟩
      obtain ⟨j, hj, rfl⟩ := List.getElem_of_mem hm
      exact hI j hj hj
  have hI : ∃ r, Ev (fun k => impl_IsValidStore.f k l) r ∧ (r = true ↔ (∀ e ∈ l, VC e ∧ e.length ≤ 50) ∧ l.length = 6) := by
    unfold impl_IsValidStore.f
    refine ex_ite (fun c => ?_) (fun c => ex_now (hf (fun h => c (by omega))))
    have key : ∃ q, Ev (fun k => impl_Version_201.f k l) q ∧ ((decide (q ≥ 0) = false) ↔ (∀ e ∈ l, VC e ∧ e.length ≤ 50)) := by
      refine ev_to (σ := Unit) (fun _ i k => impl_Version_201.l0 k l (l.length : Int) (i : Int)) l.length (fun _ i => ∀ j (hj : j < l.length), j < i → VC l[j] ∧ l[j].length ≤ 50) (fun q => (decide (q ≥ 0) = false) ↔ (∀ e ∈ l, VC e ∧ e.length ≤ 50)) ?_ ?_ () 0 (Nat.zero_le _) (fun j _ hj => absurd hj (by omega))
      · intro _ i hi hI ih
        have h1 : (i : Int) < (l.length : Int) := by omega
        have hrd : rd_L6 l (i : Int) = l[i] := by simp [rd_L6, hi]
        obtain ⟨r, er, hr⟩ := chain_impl l[i] (he _ (List.getElem_mem hi))
        have e1 : ∃ t, Ev (fun k => impl_IsValidStore_1.f k l[i]) t ∧ (t = true ↔ ¬ (VC l[i] ∧ l[i].length ≤ 50)) := by
          unfold impl_IsValidStore_1.f
          refine ex_bindE er ?_
          refine ex_ite (fun c1 => ex_now ?_) (fun c1 => ex_now ⟨fun _ h => c1 (hr.2 h.1), fun _ => rfl⟩)
          rw [decide_eq_true_eq]
          exact ⟨fun h h' => by have := h'.2; omega, fun h => by
            by_cases q : l[i].length ≤ 50
            · exact absurd ⟨hr.1 c1, q⟩ h
            · omega⟩
        obtain ⟨t, et, htt⟩ := e1
        apply ex_succ
        simp only [impl_Version_201.l0]
        rw [wrap_up hi (by omega), hrd]
        refine ex_ite (fun _ => ?_) (fun c => absurd h1 c)
        refine ex_ite (fun _ => ?_) (fun c => absurd (Int.natCast_nonneg i) c)
        refine ex_ite (fun _ => ?_) (fun c => absurd h1 c)
        refine ex_bindE et ?_
        refine ex_ite (fun c1 => ex_now ?_) (fun c1 => ih () (fun j hj hji => if hh : j < i then hI j hj hh else by
          obtain rfl : j = i := by omega
          exact Classical.byContradiction (fun h => c1 (htt.2 h))))
        have hn := htt.1 c1
        have : decide ((i : Int) ≥ 0) = true := decide_eq_true (Int.natCast_nonneg i)
        rw [this]
        exact ⟨fun h => (nomatch h), fun h => absurd (h _ (List.getElem_mem hi)) hn⟩
      · intro _ hI
        apply ex_succ
        simp only [impl_Version_201.l0]
        refine ex_ite (fun c => absurd c (Int.lt_irrefl _)) (fun _ => ex_now ⟨fun _ e hm => ?_, fun _ => by decide⟩)
        obtain ⟨j, hj, rfl⟩ := List.getElem_of_mem hm
        exact hI j hj hj
    obtain ⟨q, eq, hq⟩ := key
    refine ex_bindE (a := decide (q ≥ 0)) (Ev.bind eq (Ev.now _)) (ex_now ?_)
    rw [Bool.not_eq_true']
    exact ⟨fun h => ⟨hq.1 h, by omega⟩, fun h => hq.2 h.1⟩
  obtain ⟨r, h1, h2⟩ := hS
  obtain ⟨r', h1', h2'⟩ := hI
  have : r = r' := by rw [Bool.eq_iff_iff]; exact h2.trans h2'.symm
  subst this
  exact ⟨r, h1, h1', h2⟩
theorem both_AreLocks (l : List S150) (hl : l.length ≤ 1048576) : ∃ r, Ev (fun k => spec_AreLocks.f k l) r ∧ Ev (fun k => impl_AreLocks.f k l) r ∧ True := by
  refine ev_both (σ := Unit) (τ := Unit) (fun _ i k => spec_AreLocks.l0 k l (i : Int)) (fun _ i k => impl_AreLocks.l0 k l l (l.length : Int) (i : Int)) l.length (fun _ _ _ => True) (fun _ => True) ?_ ?_ () () 0 (Nat.zero_le _) trivial
  · intro _ _ i hi _ ih
    have h1 : (i : Int) < (l.length : Int) := by omega
    obtain ⟨r, hs, ht, _⟩ := ih () () trivial
    have e0 := wrap_up hi (by omega)
    by_cases c0 : 0 ≤ (rd_T150 l i).f0 <;> by_cases c1 : (rd_T150 l i).f0 ≤ 5 <;> by_cases c2 : 1 ≤ (rd_T150 l i).f1 <;> by_cases c3 : (rd_T150 l i).f1 ≤ 9
    all_goals try (refine ⟨false, Ev.succ ?_, Ev.succ ?_, trivial⟩ <;> (simp [spec_AreLocks.l0, impl_AreLocks.l0, spec_l1In.f, impl_isKey.f, impl_isID.f, impl_in.f, h1, c0, c1, c2, c3]; first | done | exact Ev.now _))
    by_cases c5 : 0 < i
    · have e1 : wrap64 ((i : Int) - 1) = ((i - 1 : Nat) : Int) := wrap_down c5 (by omega)
      have h2 : ((i - 1 : Nat) : Int) < (l.length : Int) := by omega
      have h3 : (i : Int) > 0 := by omega
      by_cases c6 : (rd_T150 l ((i - 1 : Nat) : Int)).f0 ≥ (rd_T150 l i).f0
      · refine ⟨false, Ev.succ ?_, Ev.succ ?_, trivial⟩ <;> (simp only [spec_AreLocks.l0, impl_AreLocks.l0, spec_l1In.f, impl_isKey.f, impl_isID.f, impl_in.f, h1, h2, h3, c0, c1, c2, c3, c6, e1, Int.natCast_nonneg, ge_iff_le, decide_true, if_true, if_false, Option.bind_some]; exact Ev.now _)
      · refine ⟨r, Ev.succ ?_, Ev.succ ?_, trivial⟩ <;> (simp only [spec_AreLocks.l0, impl_AreLocks.l0, spec_l1In.f, impl_isKey.f, impl_isID.f, impl_in.f, h1, h2, h3, c0, c1, c2, c3, c6, e1, e0, Int.natCast_nonneg, ge_iff_le, decide_true, if_true, if_false, Option.bind_some]; assumption)
    · have h3 : ¬ ((i : Int) > 0) := by omega
      refine ⟨r, Ev.succ ?_, Ev.succ ?_, trivial⟩ <;> (simp only [spec_AreLocks.l0, impl_AreLocks.l0, spec_l1In.f, impl_isKey.f, impl_isID.f, impl_in.f, h1, h3, c0, c1, c2, c3, e0, Int.natCast_nonneg, ge_iff_le, decide_true, if_true, if_false, Option.bind_some]; assumption)
  · intro _ _ _
    refine ⟨true, Ev.succ ?_, Ev.succ ?_, trivial⟩ <;> (simp [spec_AreLocks.l0, impl_AreLocks.l0]; exact Ev.now _)
theorem both_LockOwner (l : List S150) (a : Int) (hl : l.length ≤ 1048576) : ∃ r, Ev (fun k => spec_LockOwner.f k l a) r ∧ Ev (fun k => impl_LockOwner.f k l a) r ∧ True := by
  have h : ∃ r q, Ev (fun k => spec_LockOwner.l0 k l a ((0 : Nat) : Int)) r ∧ Ev (fun k => impl_Lock.l0 k l (l.length : Int) ((0 : Nat) : Int) a) q ∧ ((q < 0 ∧ r = 0) ∨ (0 ≤ q ∧ q < (l.length : Int) ∧ r = (rd_T150 l q).f1)) := by
    refine ev_two (σ := Unit) (τ := Unit) (fun _ i k => spec_LockOwner.l0 k l a (i : Int)) (fun _ i k => impl_Lock.l0 k l (l.length : Int) (i : Int) a) l.length (fun _ _ _ => True) (fun r q => ((q < 0 ∧ r = 0) ∨ (0 ≤ q ∧ q < (l.length : Int) ∧ r = (rd_T150 l q).f1))) ?_ ?_ () () 0 (Nat.zero_le _) trivial
    · intro _ _ i hi _ ih
      have h1 : (i : Int) < (l.length : Int) := by omega
      have e0 := wrap_up hi (by omega)
      by_cases c : (rd_T150 l i).f0 = a
      · refine ⟨(rd_T150 l i).f1, (i : Int), Ev.succ ?_, Ev.succ ?_, .inr ⟨by omega, h1, rfl⟩⟩ <;> (simp only [spec_LockOwner.l0, impl_Lock.l0, impl_LockOwner_1.f, h1, c, beq_self_eq_true, Int.natCast_nonneg, if_true, Option.bind_some]; exact Ev.now _)
      · obtain ⟨r, q, hs, ht, hR⟩ := ih () () trivial
        have cb : ((rd_T150 l i).f0 == a) = false := by simpa using c
        refine ⟨r, q, Ev.succ ?_, Ev.succ ?_, hR⟩ <;> (simp only [spec_LockOwner.l0, impl_Lock.l0, impl_LockOwner_1.f, h1, c, cb, e0, Int.natCast_nonneg, if_true, if_false, Option.bind_some, Bool.false_eq_true]; assumption)
    · intro _ _ _
      refine ⟨0, -1, Ev.succ ?_, Ev.succ ?_, .inl ⟨by omega, rfl⟩⟩ <;> (simp only [spec_LockOwner.l0, impl_Lock.l0, Int.lt_irrefl, if_false]; exact Ev.now _)
  obtain ⟨r, q, h1, h2, hR⟩ := h
  refine ⟨r, h1, ?_, trivial⟩
  unfold impl_LockOwner.f impl_Lock.f
  refine Ev.bind h2 ?_
  rcases hR with ⟨hq, rfl⟩ | ⟨h0, hn, rfl⟩
  · simp only [hq, if_true]; exact Ev.now _
  · have : ¬ q < 0 := by omega
    simp only [this, h0, hn, if_false, if_true]; exact Ev.now _
theorem latest_spec (c : List S76) (hl : c.length ≤ 1048576) (hv : VC c) : Ev (fun k => spec_LatestVersion.f k c) ((rd_T76 c ((c.length - 1 : Nat) : Int)).f0, (rd_T76 c ((c.length - 1 : Nat) : Int)).f1, (rd_T76 c ((c.length - 1 : Nat) : Int)).f2, (rd_T76 c ((c.length - 1 : Nat) : Int)).f3, (rd_T76 c ((c.length - 1 : Nat) : Int)).f4) := by
  obtain ⟨r, er, hr⟩ := chain_spec c hl
  obtain rfl := hr.2 hv
  have hp := hv.2.2.1
  have hw : wrap64 ((c.length : Int) - 1) = ((c.length - 1 : Nat) : Int) := wrap_down hp (by omega)
  have h1 : ((c.length - 1 : Nat) : Int) < (c.length : Int) := by omega
  unfold spec_LatestVersion.f
  refine Ev.bind er ?_
  simp only [hw, h1, Int.natCast_nonneg, if_true]; exact Ev.now _
theorem latest_implW (l : List (List S76)) (q : Nat) (hq : q < l.length) (c : List S76) (hc : c = l[q]) (hl : c.length ≤ 1048576) (hv : VC c) : impl_Store_latest.f l (q : Int) = some ((rd_T76 c ((c.length - 1 : Nat) : Int)).f0, (rd_T76 c ((c.length - 1 : Nat) : Int)).f1, (rd_T76 c ((c.length - 1 : Nat) : Int)).f2, (rd_T76 c ((c.length - 1 : Nat) : Int)).f3, (rd_T76 c ((c.length - 1 : Nat) : Int)).f4) := by
  have hrd : rd_L6 l (q : Int) = c := by rw [hc]; simp [rd_L6, hq]
  have hp := hv.2.2.1
  have hw : wrap64 ((c.length : Int) - 1) = ((c.length - 1 : Nat) : Int) := wrap_down hp (by omega)
  have h1 : ((c.length - 1 : Nat) : Int) < (c.length : Int) := by omega
  have h2 : (q : Int) < (l.length : Int) := by omega
  unfold impl_Store_latest.f
  simp only [hrd, hw, h1, h2, Int.natCast_nonneg, if_true]
theorem last_reader (c : List S76) (hv : VC c) : (rd_T76 c ((c.length - 1 : Nat) : Int)).f2 ≤ (rd_T76 c ((c.length - 1 : Nat) : Int)).f3 := by
  have h := hv.1 (c.length - 1) (by have := hv.2.2.1; omega)
  unfold vat vok at h
  simp only [Bool.and_eq_true, decide_eq_true_eq] at h
  exact h.2.2.1.1
def wc4 (y a1 a3 : Int) : Int := if a1 = 4 then (if y > a3 then 3 else 0) else 0
def wc2 (b : Bool) (x y a1 a3 : Int) : Int := if a1 = 2 then (if b = true then 2 else if x > a3 then 2 else 0) else wc4 y a1 a3
def wc1 (b : Bool) (x y a1 a3 : Int) : Int := if a1 = 1 then (if b = true then 1 else 0) else wc2 b x y a1 a3
theorem wi_j2 (p : Int × Int) (a0 a1 a2 a3 a4 a5 a6 : Int) (rs : List S165) (ws : List S133) : Ev (fun k => impl_Store_writeCode.j2 k p false a0 a1 a2 a3 a4 a5 a6 rs ws) (wc4 p.2 a1 a3) := by
  apply Ev.succ
  simp only [impl_Store_writeCode.j2, Bool.false_eq_true, if_false, wc4]
  by_cases n4 : a1 = 4
  · simp only [if_pos n4]
    by_cases h : p.2 > a3
    · simp only [if_pos h]; exact Ev.now _
    · simp only [if_neg h]; exact Ev.now _
  · simp only [if_neg n4]; exact Ev.now _
theorem wi_j2t (p : Int × Int) (a0 a1 a2 a3 a4 a5 a6 : Int) (rs : List S165) (ws : List S133) : Ev (fun k => impl_Store_writeCode.j2 k p true a0 a1 a2 a3 a4 a5 a6 rs ws) 2 := Ev.succ (by simp only [impl_Store_writeCode.j2, if_true]; exact Ev.now _)
theorem wi_j1 (p : Int × Int) (b : Bool) (a0 a1 a2 a3 a4 a5 a6 : Int) (rs : List S165) (ws : List S133) : Ev (fun k => impl_Store_writeCode.j1 k p b false a0 a1 a2 a3 a4 a5 a6 rs ws) (wc2 b p.1 p.2 a1 a3) := by
  apply Ev.succ
  simp only [impl_Store_writeCode.j1, Bool.false_eq_true, if_false]
  unfold wc2
  by_cases n2 : a1 = 2
  · simp only [if_pos n2]
    cases b
    · simp only [Bool.false_eq_true, if_false]
      by_cases h : p.1 > a3
      · simp only [if_pos h, decide_eq_true h]; exact wi_j2t p a0 a1 a2 a3 a4 a5 a6 rs ws
      · have e : (0 : Int) = wc4 p.2 a1 a3 := by unfold wc4; rw [if_neg (by omega)]
        simp only [if_neg h, decide_eq_false h]; rw [e]; exact wi_j2 p a0 a1 a2 a3 a4 a5 a6 rs ws
    · simp only [if_true]; exact wi_j2t p a0 a1 a2 a3 a4 a5 a6 rs ws
  · simp only [if_neg n2]; exact wi_j2 p a0 a1 a2 a3 a4 a5 a6 rs ws
theorem wi_j0 (p : Int × Int) (b : Bool) (a0 a1 a2 a3 a4 a5 a6 : Int) (rs : List S165) (ws : List S133) : Ev (fun k => impl_Store_writeCode.j0 k p b a0 a1 a2 a3 a4 a5 a6 rs ws) (wc1 b p.1 p.2 a1 a3) := by
  apply Ev.succ
  simp only [impl_Store_writeCode.j0]
  unfold wc1
  by_cases n1 : a1 = 1
  · simp only [if_pos n1]
    cases b
    · have e : (0 : Int) = wc2 false p.1 p.2 a1 a3 := by unfold wc2 wc4; rw [if_neg (by omega), if_neg (by omega)]
      simp only [Bool.false_eq_true, if_false]; rw [e]; exact wi_j1 p false a0 a1 a2 a3 a4 a5 a6 rs ws
    · simp only [if_true]
      exact Ev.succ (by simp only [impl_Store_writeCode.j1, if_true]; exact Ev.now _)
  · simp only [if_neg n1]; exact wi_j1 p b a0 a1 a2 a3 a4 a5 a6 rs ws
theorem ws_j3 (a0 a1 a2 a3 a4 a5 a6 : Int) (rs : List S165) (ws : List S133) (v0 v1 x y v4 : Int) (hxy : x ≤ y) : Ev (fun k => spec_WriteCode.j3 k false a0 a1 a2 a3 a4 a5 a6 rs ws v0 v1 x y v4) (wc4 y a1 a3) := by
  apply Ev.succ
  simp only [spec_WriteCode.j3, Bool.false_eq_true, if_false, wc4]
  by_cases n4 : a1 = 4
  · simp only [if_pos n4]
    by_cases hx : x > a3
    · simp only [if_pos hx, if_pos (show y > a3 by omega)]; exact Ev.now _
    · by_cases h : y > a3
      · simp only [if_neg hx, if_pos h]; exact Ev.now _
      · simp only [if_neg hx, if_neg h]; exact Ev.now _
  · simp only [if_neg n4]; exact Ev.now _
theorem ws_j3t (a0 a1 a2 a3 a4 a5 a6 : Int) (rs : List S165) (ws : List S133) (v0 v1 x y v4 : Int) : Ev (fun k => spec_WriteCode.j3 k true a0 a1 a2 a3 a4 a5 a6 rs ws v0 v1 x y v4) 2 := Ev.succ (by simp only [spec_WriteCode.j3, if_true]; exact Ev.now _)
theorem ws_j2 (b : Bool) (a0 a1 a2 a3 a4 a5 a6 : Int) (rs : List S165) (ws : List S133) (v0 v1 x y v4 : Int) (hxy : x ≤ y) : Ev (fun k => spec_WriteCode.j2 k b false a0 a1 a2 a3 a4 a5 a6 rs ws v0 v1 x y v4) (wc2 b x y a1 a3) := by
  apply Ev.succ
  simp only [spec_WriteCode.j2, Bool.false_eq_true, if_false]
  unfold wc2
  by_cases n2 : a1 = 2
  · simp only [if_pos n2]
    cases b
    · simp only [Bool.false_eq_true, if_false]
      by_cases h : x > a3
      · simp only [if_pos h, decide_eq_true h]; exact ws_j3t a0 a1 a2 a3 a4 a5 a6 rs ws v0 v1 x y v4
      · have e : (0 : Int) = wc4 y a1 a3 := by unfold wc4; rw [if_neg (by omega)]
        simp only [if_neg h, decide_eq_false h]; rw [e]; exact ws_j3 a0 a1 a2 a3 a4 a5 a6 rs ws v0 v1 x y v4 hxy
    · simp only [if_true]; exact ws_j3t a0 a1 a2 a3 a4 a5 a6 rs ws v0 v1 x y v4
  · simp only [if_neg n2]; exact ws_j3 a0 a1 a2 a3 a4 a5 a6 rs ws v0 v1 x y v4 hxy
theorem ws_j12 (b : Bool) (a0 a1 a2 a3 a4 a5 a6 : Int) (rs : List S165) (ws : List S133) (v0 v1 x y v4 : Int) (hxy : x ≤ y) : Ev (fun k => if a1 = 1 then spec_WriteCode.j2 k b b a0 a1 a2 a3 a4 a5 a6 rs ws v0 v1 x y v4 else spec_WriteCode.j2 k b false a0 a1 a2 a3 a4 a5 a6 rs ws v0 v1 x y v4) (wc1 b x y a1 a3) := by
  unfold wc1
  by_cases n1 : a1 = 1
  · simp only [if_pos n1]
    cases b
    · have e : (0 : Int) = wc2 false x y a1 a3 := by unfold wc2 wc4; rw [if_neg (by omega), if_neg (by omega)]
      simp only [Bool.false_eq_true, if_false]; rw [e]; exact ws_j2 false a0 a1 a2 a3 a4 a5 a6 rs ws v0 v1 x y v4 hxy
    · simp only [if_true]
      exact Ev.succ (by simp only [spec_WriteCode.j2, if_true]; exact Ev.now _)
  · simp only [if_neg n1]; exact ws_j2 b a0 a1 a2 a3 a4 a5 a6 rs ws v0 v1 x y v4 hxy
theorem both_WriteCode (l : List (List S76)) (lk : List S150) (a0 a1 a2 a3 a4 a5 a6 : Int) (rs : List S165) (ws : List S133) (key : Int) (hl : l.length ≤ 1048576 ∧ ∀ e ∈ l, e.length ≤ 1048576) (hlk : lk.length ≤ 1048576) (hr : rs.length ≤ 1048576) (hw : ws.length ≤ 1048576) : ∃ r, Ev (fun k => spec_WriteCode.f k l lk a0 a1 a2 a3 a4 a5 a6 rs ws key) r ∧ Ev (fun k => impl_WriteCode.f k l lk a0 a1 a2 a3 a4 a5 a6 rs ws key) r := by
  obtain ⟨v, s1, i1, hv⟩ := store_both l hl.1 hl.2
  obtain ⟨b, s2, i2, _⟩ := both_IsValidTransaction a0 a1 a2 a3 a4 a5 a6 rs ws hr hw
  obtain ⟨g, s3, i3, _⟩ := both_AreLocks lk hlk
  obtain ⟨n, s4, i4, _⟩ := both_LockOwner lk key hlk
  have sT : Ev (fun k => spec_WriteCode.j0 k lk key true l a0 a1 a2 a3 a4 a5 a6 rs ws) 6 := Ev.succ (by simp only [spec_WriteCode.j0, if_true]; exact Ev.now _)
  have bad : Ev (fun k => spec_l12Good.f k l a0 a1 a2 a3 a4 a5 a6 rs ws key) false → Ev (fun k => spec_WriteCode.f k l lk a0 a1 a2 a3 a4 a5 a6 rs ws key) 6 := by
    intro h
    unfold spec_WriteCode.f
    refine Ev.bind h ?_
    simp only [Bool.false_eq_true, if_false]; exact sT
  cases v
  · refine ⟨6, bad ?_, ?_⟩
    · unfold spec_l12Good.f
      exact Ev.bind s1 (by simp only [Bool.false_eq_true, if_false]; exact Ev.now _)
    · unfold impl_WriteCode.f
      exact Ev.bind i1 (by simp only [Bool.false_eq_true, if_false]; exact Ev.now _)
  by_cases hst : a2 = 1
  rotate_left 1
  · refine ⟨6, bad ?_, ?_⟩
    · unfold spec_l12Good.f
      refine Ev.bind s1 ?_
      simp only [if_true]
      refine Ev.bind s2 ?_
      cases b
      · simp only [Bool.false_eq_true, if_false]; exact Ev.now _
      · simp only [hst, if_true, if_false]; exact Ev.now _
    · unfold impl_WriteCode.f impl_Transaction_isActive.f
      refine Ev.bind i1 ?_
      simp only [hst, if_true, if_false, Option.bind_some, Bool.false_eq_true]; exact Ev.now _
  cases b
  · refine ⟨6, bad ?_, ?_⟩
    · unfold spec_l12Good.f
      refine Ev.bind s1 ?_
      simp only [if_true]
      exact Ev.bind s2 (by simp only [Bool.false_eq_true, if_false]; exact Ev.now _)
    · unfold impl_WriteCode.f impl_Transaction_isActive.f
      refine Ev.bind i1 ?_
      simp only [hst, if_true]
      subst hst
      exact Ev.bind (a := false) (Ev.bind i2 (Ev.now _)) (by simp only [Bool.false_eq_true, if_false]; exact Ev.now _)
  have hact : Ev (fun k => impl_Transaction_isActive.f k a0 a1 a2 a3 a4 a5 a6 rs ws) true := by
    unfold impl_Transaction_isActive.f
    simp only [hst, if_true]
    subst hst
    exact Ev.bind i2 (Ev.now _)
  by_cases hk : 0 ≤ key ∧ key ≤ 5
  rotate_left 1
  · have g0 : (decide (0 ≤ key) && decide (key ≤ 5)) = false := by
      rw [Bool.and_eq_false_iff, decide_eq_false_iff_not, decide_eq_false_iff_not]; omega
    refine ⟨6, bad ?_, ?_⟩
    · unfold spec_l12Good.f
      refine Ev.bind s1 ?_
      simp only [if_true]
      refine Ev.bind s2 ?_
      simp only [hst, if_true, l1In_eq, g0, Option.bind_some]; exact Ev.now _
    · unfold impl_WriteCode.f
      refine Ev.bind i1 ?_
      simp only [if_true]
      refine Ev.bind hact ?_
      simp only [if_true, impl_isKey.f, in_eq, g0, Option.bind_some, Bool.false_eq_true, if_false]; exact Ev.now _
  obtain ⟨hk0, hk5⟩ := hk
  have g0 : (decide (0 ≤ key) && decide (key ≤ 5)) = true := by simp [hk0, hk5]
  obtain ⟨hW, h6⟩ := hv.1 rfl
  obtain ⟨q, rfl⟩ := Int.eq_ofNat_of_zero_le hk0
  have hq : q < l.length := by omega
  have hql : (q : Int) < (l.length : Int) := by omega
  obtain ⟨c, hc⟩ : ∃ c, c = l[q] := ⟨_, rfl⟩
  have hrd : rd_L6 l (q : Int) = c := by rw [hc]; simp [rd_L6, hq]
  obtain ⟨hVC, h50⟩ := hW _ (List.getElem_mem hq)
  rw [← hc] at hVC h50
  have hgood : Ev (fun k => spec_l12Good.f k l a0 a1 a2 a3 a4 a5 a6 rs ws (q : Int)) true := by
    unfold spec_l12Good.f
    refine Ev.bind s1 ?_
    simp only [if_true]
    refine Ev.bind s2 ?_
    simp only [hst, if_true, l1In_eq, g0, Option.bind_some]; exact Ev.now _
  cases g
  · refine ⟨6, ?_, ?_⟩
    · unfold spec_WriteCode.f
      refine Ev.bind hgood ?_
      simp only [if_true]
      refine Ev.bind s3 ?_
      exact sT
    · unfold impl_WriteCode.f
      refine Ev.bind i1 ?_
      simp only [if_true]
      refine Ev.bind hact ?_
      simp only [if_true, impl_isKey.f, in_eq, g0, Option.bind_some]
      refine Ev.bind i3 ?_
      simp only [Bool.false_eq_true, if_false]; exact Ev.now _
  have hlat := latest_spec c (by omega) hVC
  have hli := latest_implW l q hq c hc (by omega) hVC
  have hxy := last_reader c hVC
  revert hlat hli hxy
  generalize (rd_T76 c ((c.length - 1 : Nat) : Int)).f0 = v0
  generalize (rd_T76 c ((c.length - 1 : Nat) : Int)).f1 = v1
  generalize (rd_T76 c ((c.length - 1 : Nat) : Int)).f2 = x
  generalize (rd_T76 c ((c.length - 1 : Nat) : Int)).f3 = y
  generalize (rd_T76 c ((c.length - 1 : Nat) : Int)).f4 = v4
  intro hlat hli hxy
  have key1 : ∀ f : Bool, Ev (fun k => spec_WriteCode.j1 k (q : Int) f l a0 a1 a2 a3 a4 a5 a6 rs ws) (wc1 f x y a1 a3) := by
    intro f
    apply Ev.succ
    simp only [spec_WriteCode.j1, hql, hrd, Int.natCast_nonneg, if_true]
    refine Ev.bind hlat ?_
    exact ws_j12 f a0 a1 a2 a3 a4 a5 a6 rs ws v0 v1 x y v4 hxy
  refine ⟨wc1 (if n = 0 then false else (n != a0)) x y a1 a3, ?_, ?_⟩
  · unfold spec_WriteCode.f
    refine Ev.bind hgood ?_
    simp only [if_true]
    refine Ev.bind s3 ?_
    apply Ev.succ
    simp only [spec_WriteCode.j0, Bool.not_true, Bool.false_eq_true, if_false]
    refine Ev.bind s4 ?_
    by_cases hn : n = 0
    · simp only [if_pos hn]; exact key1 false
    · simp only [if_neg hn]; exact key1 _
  · unfold impl_WriteCode.f
    refine Ev.bind i1 ?_
    simp only [if_true]
    refine Ev.bind hact ?_
    simp only [if_true, impl_isKey.f, in_eq, g0, Option.bind_some]
    refine Ev.bind i3 ?_
    simp only [if_true]
    refine Ev.bind (a := wc1 (if n = 0 then false else (n != a0)) x y a1 a3) ?_ (Ev.now _)
    unfold impl_Store_writeCode.f
    refine Ev.bind i4 ?_
    simp only [hli, Option.bind_some]
    by_cases hn : n = 0
    · simp only [if_pos hn]; exact wi_j0 (x, y) false a0 a1 a2 a3 a4 a5 a6 rs ws
    · simp only [if_neg hn]; exact wi_j0 (x, y) _ a0 a1 a2 a3 a4 a5 a6 rs ws
theorem sz_st (vs : List (List S207)) (a : Int) (h0 : 0 ≤ a) (h1 : a ≤ 1048576) (hv : vs.length ≤ 9223372036854775807) (hv2 : ∀ e ∈ vs, e.length ≤ 9223372036854775807) : ∃ r, Ev (fun k => laws_szStore.f k vs a) r ∧ r ≤ a ∧ (0 ≤ r → vs.length ≤ 1048576 ∧ ∀ e ∈ vs, e.length ≤ 1048576) := by
  obtain ⟨r0, e0, u0, hf⟩ := sz_VersionSS vs a h0 h1 hv hv2
  unfold laws_szStore.f
  by_cases c0 : r0 < 0
  · exact ⟨-1, Ev.bind e0 (by simp only [c0, if_true]; exact Ev.now _), by omega, fun h => absurd h (by omega)⟩
  · exact ⟨r0, Ev.bind e0 (by simp only [c0, if_false]; exact Ev.now _), u0, fun h => hf h⟩
theorem sz_tx (a0 a1 a2 a3 a4 a5 a6 : Int) (rs : List S189) (ws : List S191) (a : Int) (h0 : 0 ≤ a) (h1 : a ≤ 1048576) (hr : rs.length ≤ 9223372036854775807) (hw : ws.length ≤ 9223372036854775807) : ∃ r, Ev (fun _ => laws_szTransaction.f a0 a1 a2 a3 a4 a5 a6 rs ws a) r ∧ r ≤ a ∧ (0 ≤ r → rs.length ≤ 1048576 ∧ ws.length ≤ 1048576) := by
  unfold laws_szTransaction.f
  obtain ⟨r0, e0, u0, f0⟩ := szx_ReadMark rs a h0 h1 hr
  by_cases c0 : r0 < 0
  · exact ⟨-1, Ev.bind e0 (by simp only [c0, if_true]; exact Ev.now _), by omega, fun h => absurd h (by omega)⟩
  obtain ⟨r1, e1, u1, f1⟩ := szx_Write ws r0 (by omega) (by omega) hw
  by_cases c1 : r1 < 0
  · exact ⟨-1, Ev.bind e0 (by simp only [c0, if_false]; exact Ev.bind e1 (by simp only [c1, if_true]; exact Ev.now _)), by omega, fun h => absurd h (by omega)⟩
  exact ⟨r1, Ev.bind e0 (by simp only [c0, if_false]; exact Ev.bind e1 (by simp only [c1, if_false]; exact Ev.now _)), by omega, fun _ => ⟨f0 (by omega), f1 (by omega)⟩⟩
theorem to_st (vs : List (List S207)) (h : vs.length ≤ 1048576 ∧ ∀ e ∈ vs, e.length ≤ 1048576) : Ev (fun k => laws_toStore.f k vs) (vs.map (List.map cvVersion)) := by
  unfold laws_toStore.f
  exact Ev.bind (ev_toVersionSS vs h) (Ev.now _)
theorem st_len {vs : List (List S207)} (h : vs.length ≤ 1048576 ∧ ∀ e ∈ vs, e.length ≤ 1048576) : (vs.map (List.map cvVersion)).length ≤ 1048576 ∧ ∀ e ∈ vs.map (List.map cvVersion), e.length ≤ 1048576 := ⟨by simpa using h.1, fun e he => by
  obtain ⟨x, hx, rfl⟩ := List.mem_map.1 he
  simpa using h.2 x hx⟩
theorem eq_st (l : List (List S76)) (h : l.length ≤ 1048576 ∧ ∀ e ∈ l, e.length ≤ 1048576) : Ev (fun k => laws_eqStore.f k l l) true := by
  unfold laws_eqStore.f
  refine Ev.bind (ev_eqVersionSS _ h) ?_
  simp only [if_true]; exact Ev.now _
theorem to_tx (a0 a1 a2 a3 a4 a5 a6 : Int) (rs : List S189) (ws : List S191) (hr : rs.length ≤ 1048576) (hw : ws.length ≤ 1048576) : Ev (fun k => laws_toTransaction.f k a0 a1 a2 a3 a4 a5 a6 rs ws) (a0, a1, a2, a3, a4, a5, a6, rs.map cvReadMark, ws.map cvWrite) := by
  unfold laws_toTransaction.f
  exact Ev.bind (ev_toReadMarkS rs hr) (Ev.bind (ev_toWriteS ws hw) (Ev.now _))
theorem eq_tx (a0 a1 a2 a3 a4 a5 a6 : Int) (rs : List S165) (ws : List S133) (hr : rs.length ≤ 1048576) (hw : ws.length ≤ 1048576) : Ev (fun k => laws_eqTransaction.f k a0 a1 a2 a3 a4 a5 a6 rs ws a0 a1 a2 a3 a4 a5 a6 rs ws) true := by
  unfold laws_eqTransaction.f
  simp only [if_true]
  exact Ev.bind (ev_eqReadMarkS _ (by omega)) (by simp only [if_true]; exact Ev.bind (ev_eqWriteS _ (by omega)) (by simp only [if_true]; exact Ev.now _))
theorem FnExactWriteCode : ∀ (x0_0 : List (List (S207))) (x1 : List (S160)) (x2_0 : Int) (x2_1 : Int) (x2_2 : Int) (x2_3 : Int) (x2_4 : Int) (x2_5 : Int) (x2_6 : Int) (x2_7 : List (S189)) (x2_8 : List (S191)) (x3 : Int), (okRow (okRow PFnExactWriteCode.g207)) x0_0 → (okRow PFnExactWriteCode.g160) x1 → (okInt .i64) x2_0 → (okInt .i64) x2_1 → (okInt .i64) x2_2 → (okInt .i64) x2_3 → (okInt .i64) x2_4 → (okInt .i64) x2_5 → (okInt .i64) x2_6 → (okRow PFnExactWriteCode.g189) x2_7 → (okRow PFnExactWriteCode.g191) x2_8 → (okInt .i64) x3 → ∃ k, laws_FnExactWriteCode.f k x0_0 x1 x2_0 x2_1 x2_2 x2_3 x2_4 x2_5 x2_6 x2_7 x2_8 x3 = some true := by
  intro vs lk a0 a1 a2 a3 a4 a5 a6 rs ws key hv hlk _ _ _ _ _ _ _ hr hw _
  have hm : lk.length ≤ 9223372036854775807 := by have := hlk.1; simp only [maxLen] at this; omega
  apply Ev.rounds
  unfold laws_FnExactWriteCode.f
  obtain ⟨r0, e0, u0, f0⟩ := sz_st vs 1048576 (by omega) (by omega) (by have := hv.1; simp only [maxLen] at this; omega) (fun x hx => by have := (hv.2 x hx).1; simp only [maxLen] at this; omega)
  refine Ev.bind e0 ?_
  by_cases c0 : r0 < 0
  · simp only [c0, if_true]; exact Ev.now _
  have hs := f0 (by omega)
  simp only [c0, if_false]
  simp only [sz_LockS lk r0 (by omega) (by omega) hm, Option.bind_some]
  by_cases h : r0 < (lk.length : Int)
  · simp only [h, if_true]; exact Ev.now _
  have hk : lk.length ≤ 1048576 := by omega
  have h0 : ¬ (r0 - (lk.length : Int) < 0) := by omega
  simp only [h, h0, if_false]
  obtain ⟨r1, e1, u1, f1⟩ := sz_tx a0 a1 a2 a3 a4 a5 a6 rs ws (r0 - (lk.length : Int)) (by omega) (by omega) (by have := hr.1; simp only [maxLen] at this; omega) (by have := hw.1; simp only [maxLen] at this; omega)
  refine Ev.bind e1 ?_
  by_cases c1 : r1 < 0
  · simp only [c1, if_true]; exact Ev.now _
  obtain ⟨hrl, hwl⟩ := f1 (by omega)
  simp only [c1, if_false]
  have hto := to_st vs hs
  have htl := ev_toLockS lk hk
  have htt := to_tx a0 a1 a2 a3 a4 a5 a6 rs ws hrl hwl
  obtain ⟨r, s1, i1⟩ := both_WriteCode (vs.map (List.map cvVersion)) (lk.map cvLock) a0 a1 a2 a3 a4 a5 a6 (rs.map cvReadMark) (ws.map cvWrite) key (st_len hs) (by simpa using hk) (by simpa using hrl) (by simpa using hwl)
  refine Ev.bind hto (Ev.bind htl (Ev.bind htt (Ev.bind s1 (Ev.bind hto (Ev.bind htl (Ev.bind htt (Ev.bind i1 ?_)))))))
  simp only [if_true]
  refine Ev.bind hto (Ev.bind (eq_st _ (st_len hs)) ?_)
  simp only [if_true]
  refine Ev.bind htl (Ev.bind (ev_eqLockS _ (by simpa using hm)) ?_)
  simp only [if_true]
  refine Ev.bind htt (Ev.bind (eq_tx a0 a1 a2 a3 a4 a5 a6 (rs.map cvReadMark) (ws.map cvWrite) (by simpa using hrl) (by simpa using hwl)) ?_)
  simp only [if_true]; exact Ev.now _

end Go.Proofs.Ytakpkmlbklahhaa.Pure
