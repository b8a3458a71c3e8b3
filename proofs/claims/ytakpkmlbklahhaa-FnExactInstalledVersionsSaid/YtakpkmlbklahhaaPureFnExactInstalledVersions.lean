/- The plain statement of FnExactInstalledVersions: both functions list the same versions, marks in the arguments leave the list, and marks in the list are held. Condition: the rows' lengths are at most maxLen. -/
import Derived.Test.YtakpkmlbklahhaaGoodFnExactInstalledVersions
import Derived.Test.YtakpkmlbklahhaaPlainU
namespace Go.Proofs.Ytakpkmlbklahhaa.Pure
open Go.RowKit Go.Proofs.Ytakpkmlbklahhaa.PFnExactInstalledVersions Go.Proofs.YtakpkmlbklahhaaW.PrintWords Go.Proofs.YtakpkmlbklahhaaW.PrintLast Go.Proofs.Ytakpkmlbklahhaa.OpenK Go.Proofs.Ytakpkmlbklahhaa.Plain
set_option linter.unusedVariables false
set_option linter.unusedSimpArgs false

theorem sz_ReadMarkS (l : List S189) (a : Int) (h0 : 0 ≤ a) (h1 : a ≤ 1048576) (hl : l.length ≤ 9223372036854775807) : laws_szReadMarkS.f l a = some (if a < l.length then -1 else a - l.length) := by
  unfold laws_szReadMarkS.f
  rw [wrap_in (by omega) (by omega)]
  by_cases h : a < l.length
  · rw [if_pos (by omega), if_pos h]
  · rw [if_neg (by omega), if_neg h]

theorem szx_ReadMark (l : List S189) (a : Int) (h0 : 0 ≤ a) (h1 : a ≤ 1048576) (hl : l.length ≤ 9223372036854775807) : ∃ r, Ev (fun _ => laws_szReadMarkS.f l a) r ∧ r ≤ a ∧ (0 ≤ r → l.length ≤ 1048576) := by
  rw [sz_ReadMarkS l a h0 h1 hl]
  refine ⟨_, Ev.now _, ?_, ?_⟩ <;> split <;> omega

theorem sz_VersionS (l : List S207) (a : Int) (h0 : 0 ≤ a) (h1 : a ≤ 1048576) (hl : l.length ≤ 9223372036854775807) : laws_szVersionS.f l a = some (if a < l.length then -1 else a - l.length) := by
  unfold laws_szVersionS.f
  rw [wrap_in (by omega) (by omega)]
  by_cases h : a < l.length
  · rw [if_pos (by omega), if_pos h]
  · rw [if_neg (by omega), if_neg h]

theorem szx_Version (l : List S207) (a : Int) (h0 : 0 ≤ a) (h1 : a ≤ 1048576) (hl : l.length ≤ 9223372036854775807) : ∃ r, Ev (fun _ => laws_szVersionS.f l a) r ∧ r ≤ a ∧ (0 ≤ r → l.length ≤ 1048576) := by
  rw [sz_VersionS l a h0 h1 hl]
  refine ⟨_, Ev.now _, ?_, ?_⟩ <;> split <;> omega

theorem sz_WriteS (l : List S191) (a : Int) (h0 : 0 ≤ a) (h1 : a ≤ 1048576) (hl : l.length ≤ 9223372036854775807) : laws_szWriteS.f l a = some (if a < l.length then -1 else a - l.length) := by
  unfold laws_szWriteS.f
  rw [wrap_in (by omega) (by omega)]
  by_cases h : a < l.length
  · rw [if_pos (by omega), if_pos h]
  · rw [if_neg (by omega), if_neg h]

theorem szx_Write (l : List S191) (a : Int) (h0 : 0 ≤ a) (h1 : a ≤ 1048576) (hl : l.length ≤ 9223372036854775807) : ∃ r, Ev (fun _ => laws_szWriteS.f l a) r ∧ r ≤ a ∧ (0 ≤ r → l.length ≤ 1048576) := by
  rw [sz_WriteS l a h0 h1 hl]
  refine ⟨_, Ev.now _, ?_, ?_⟩ <;> split <;> omega

def cvReadMark (x : S189) : S165 := ⟨x.f0, x.f1⟩
theorem ev_toReadMarkS (l : List S189) (hl : l.length ≤ 1048576) : Ev (fun k => laws_toReadMarkS.f k l) (l.map cvReadMark) := by
  have h : Ev (fun k => laws_toReadMarkS.l0 k l (List.replicate l.length z165) ((0 : Nat) : Int)) (l.map cvReadMark) := by
    refine ev_up (σ := List S165) (fun ys i k => laws_toReadMarkS.l0 k l ys (i : Int)) l.length (fun ys i => Filled (l.map cvReadMark) ys i) (fun _ _ => l.map cvReadMark) ?_ ?_ (List.replicate l.length z165) 0 (Nat.zero_le _) (Filled.start _ _ (by simp))
    · intro ys i hi hI ih
      apply Ev.succ
      have h1 : (i : Int) < (l.length : Int) := by omega
      have h2 : (i : Int) < (ys.length : Int) := by have := hI.1; simp at this; omega
      simp only [laws_toReadMarkS.l0, laws_toReadMark.f, Option.bind_some, h1, h2, Int.natCast_nonneg, if_true, Int.toNat_natCast, wrap_up hi (by omega)]
      exact ih _ (hI.step (by simpa using hi) (by simp [cvReadMark, rd_T189, hi]))
    · intro ys hI
      apply Ev.succ
      simp only [laws_toReadMarkS.l0, Int.lt_irrefl, if_false]
      exact Ev.some (Filled.done (by simpa using hI))
  unfold laws_toReadMarkS.f
  have h3 : ((l.length : Int) : Int).toNat ≤ 17592186044416 := by omega
  simp only [Int.natCast_nonneg, if_true, h3]
  simpa using h

def cvVersion (x : S207) : S76 := ⟨x.f0, x.f1, x.f2, x.f3, x.f4⟩
theorem ev_toVersionS (l : List S207) (hl : l.length ≤ 1048576) : Ev (fun k => laws_toVersionS.f k l) (l.map cvVersion) := by
  have h : Ev (fun k => laws_toVersionS.l0 k l (List.replicate l.length z76) ((0 : Nat) : Int)) (l.map cvVersion) := by
    refine ev_up (σ := List S76) (fun ys i k => laws_toVersionS.l0 k l ys (i : Int)) l.length (fun ys i => Filled (l.map cvVersion) ys i) (fun _ _ => l.map cvVersion) ?_ ?_ (List.replicate l.length z76) 0 (Nat.zero_le _) (Filled.start _ _ (by simp))
    · intro ys i hi hI ih
      apply Ev.succ
      have h1 : (i : Int) < (l.length : Int) := by omega
      have h2 : (i : Int) < (ys.length : Int) := by have := hI.1; simp at this; omega
      simp only [laws_toVersionS.l0, laws_toVersion.f, Option.bind_some, h1, h2, Int.natCast_nonneg, if_true, Int.toNat_natCast, wrap_up hi (by omega)]
      exact ih _ (hI.step (by simpa using hi) (by simp [cvVersion, rd_T207, hi]))
    · intro ys hI
      apply Ev.succ
      simp only [laws_toVersionS.l0, Int.lt_irrefl, if_false]
      exact Ev.some (Filled.done (by simpa using hI))
  unfold laws_toVersionS.f
  have h3 : ((l.length : Int) : Int).toNat ≤ 7036874417766 := by omega
  simp only [Int.natCast_nonneg, if_true, h3]
  simpa using h

def cvWrite (x : S191) : S133 := ⟨x.f0, x.f1⟩
theorem ev_toWriteS (l : List S191) (hl : l.length ≤ 1048576) : Ev (fun k => laws_toWriteS.f k l) (l.map cvWrite) := by
  have h : Ev (fun k => laws_toWriteS.l0 k l (List.replicate l.length z133) ((0 : Nat) : Int)) (l.map cvWrite) := by
    refine ev_up (σ := List S133) (fun ys i k => laws_toWriteS.l0 k l ys (i : Int)) l.length (fun ys i => Filled (l.map cvWrite) ys i) (fun _ _ => l.map cvWrite) ?_ ?_ (List.replicate l.length z133) 0 (Nat.zero_le _) (Filled.start _ _ (by simp))
    · intro ys i hi hI ih
      apply Ev.succ
      have h1 : (i : Int) < (l.length : Int) := by omega
      have h2 : (i : Int) < (ys.length : Int) := by have := hI.1; simp at this; omega
      simp only [laws_toWriteS.l0, laws_toWrite.f, Option.bind_some, h1, h2, Int.natCast_nonneg, if_true, Int.toNat_natCast, wrap_up hi (by omega)]
      exact ih _ (hI.step (by simpa using hi) (by simp [cvWrite, rd_T191, hi]))
    · intro ys hI
      apply Ev.succ
      simp only [laws_toWriteS.l0, Int.lt_irrefl, if_false]
      exact Ev.some (Filled.done (by simpa using hI))
  unfold laws_toWriteS.f
  have h3 : ((l.length : Int) : Int).toNat ≤ 17592186044416 := by omega
  simp only [Int.natCast_nonneg, if_true, h3]
  simpa using h

theorem ev_eqReadMarkS (l : List S165) (hl : l.length ≤ 9223372036854775807) : Ev (fun k => laws_eqReadMarkS.f k l l) true := by
  have h : Ev (fun k => laws_eqReadMarkS.l0 k l l ((0 : Nat) : Int)) true := by
    refine ev_up (σ := Unit) (fun _ i k => laws_eqReadMarkS.l0 k l l (i : Int)) l.length (fun _ _ => True) (fun _ _ => true) ?_ ?_ () 0 (Nat.zero_le _) trivial
    · intro ys i hi hI ih
      apply Ev.succ
      have h1 : (i : Int) < (l.length : Int) := by omega
      simp only [laws_eqReadMarkS.l0, laws_eqReadMark.f, Option.bind_some, h1, Int.natCast_nonneg, if_true, wrap_up hi hl]
      exact ih () trivial
    · intro ys hI
      apply Ev.succ
      simp only [laws_eqReadMarkS.l0, Int.lt_irrefl, if_false]
      exact Ev.now _
  unfold laws_eqReadMarkS.f
  simp only [if_true]
  exact h

theorem ev_eqVersionS (l : List S76) (hl : l.length ≤ 9223372036854775807) : Ev (fun k => laws_eqVersionS.f k l l) true := by
  have h : Ev (fun k => laws_eqVersionS.l0 k l l ((0 : Nat) : Int)) true := by
    refine ev_up (σ := Unit) (fun _ i k => laws_eqVersionS.l0 k l l (i : Int)) l.length (fun _ _ => True) (fun _ _ => true) ?_ ?_ () 0 (Nat.zero_le _) trivial
    · intro ys i hi hI ih
      apply Ev.succ
      have h1 : (i : Int) < (l.length : Int) := by omega
      simp only [laws_eqVersionS.l0, laws_eqVersion.f, Option.bind_some, h1, Int.natCast_nonneg, if_true, wrap_up hi hl]
      exact ih () trivial
    · intro ys hI
      apply Ev.succ
      simp only [laws_eqVersionS.l0, Int.lt_irrefl, if_false]
      exact Ev.now _
  unfold laws_eqVersionS.f
  simp only [if_true]
  exact h

theorem ev_eqWriteS (l : List S133) (hl : l.length ≤ 9223372036854775807) : Ev (fun k => laws_eqWriteS.f k l l) true := by
  have h : Ev (fun k => laws_eqWriteS.l0 k l l ((0 : Nat) : Int)) true := by
    refine ev_up (σ := Unit) (fun _ i k => laws_eqWriteS.l0 k l l (i : Int)) l.length (fun _ _ => True) (fun _ _ => true) ?_ ?_ () 0 (Nat.zero_le _) trivial
    · intro ys i hi hI ih
      apply Ev.succ
      have h1 : (i : Int) < (l.length : Int) := by omega
      simp only [laws_eqWriteS.l0, laws_eqWrite.f, Option.bind_some, h1, Int.natCast_nonneg, if_true, wrap_up hi hl]
      exact ih () trivial
    · intro ys hI
      apply Ev.succ
      simp only [laws_eqWriteS.l0, Int.lt_irrefl, if_false]
      exact Ev.now _
  unfold laws_eqWriteS.f
  simp only [if_true]
  exact h

theorem sz_VersionSS (l : List (List S207)) (a : Int) (h0 : 0 ≤ a) (h1 : a ≤ 1048576) (hl : l.length ≤ 9223372036854775807) (hg : ∀ e ∈ l, e.length ≤ 9223372036854775807) : ∃ r, Ev (fun k => laws_szVersionSS.f k l a) r ∧ r ≤ a ∧ (0 ≤ r → (l.length ≤ 1048576 ∧ ∀ e ∈ l, e.length ≤ 1048576)) := by
  unfold laws_szVersionSS.f
  rw [wrap_in (by omega) (by omega)]
  by_cases h : a - (l.length : Int) < 0
  · simp only [h, if_true]; exact ⟨-1, Ev.now _, by omega, fun h => absurd h (by omega)⟩
  simp only [h, if_false]
  refine ev_to (σ := Int) (fun s i k => laws_szVersionSS.l0 k l s (i : Int)) l.length (fun s i => 0 ≤ s ∧ s ≤ a ∧ ∀ j (hj : j < l.length), j < i → l[j].length ≤ 1048576) (fun r => r ≤ a ∧ (0 ≤ r → (l.length ≤ 1048576 ∧ ∀ e ∈ l, e.length ≤ 1048576))) ?_ ?_ (a - (l.length : Int)) 0 (Nat.zero_le _) ⟨by omega, by omega, fun j hj h => absurd h (by omega)⟩
  · intro s i hi ⟨hs, hsa, hI⟩ ih
    have h2 : (i : Int) < (l.length : Int) := by omega
    have hrd : rd_L2 l (i : Int) = l[i] := by simp [rd_L2, hi]
    obtain ⟨r, e, hr, hf⟩ := szx_Version (rd_L2 l (i : Int)) s hs (by omega) (by rw [hrd]; exact hg _ (List.getElem_mem hi))
    by_cases c : r < 0
    · refine ⟨-1, Ev.succ ?_, by omega, fun h => absurd h (by omega)⟩
      simp only [laws_szVersionSS.l0, h2, Int.natCast_nonneg, if_true]
      exact Ev.bind e (by simp only [c, if_true]; exact Ev.now _)
    · obtain ⟨r', e', h'⟩ := ih r ⟨by omega, by omega, fun j hj hji => if hh : j < i then hI j hj hh else by obtain rfl : j = i := (by omega); rw [← hrd]; exact hf (by omega)⟩
      refine ⟨r', Ev.succ ?_, h'⟩
      simp only [laws_szVersionSS.l0, h2, Int.natCast_nonneg, if_true]
      exact Ev.bind e (by simp only [c, if_false, wrap_up hi (by omega)]; exact e')
  · intro s ⟨hs, hsa, hI⟩
    refine ⟨s, Ev.succ ?_, hsa, fun _ => ⟨by omega, fun e he => ?_⟩⟩
    · simp only [laws_szVersionSS.l0, Int.lt_irrefl, if_false]; exact Ev.now _
    · obtain ⟨j, hj, rfl⟩ := List.getElem_of_mem he
      exact hI j hj hj

theorem ev_toVersionSS (l : List (List S207)) (h : l.length ≤ 1048576 ∧ ∀ e ∈ l, e.length ≤ 1048576) : Ev (fun k => laws_toVersionSS.f k l) (l.map (List.map cvVersion)) := by
  have hl := h.1
  have hh : Ev (fun k => laws_toVersionSS.l0 k l (List.replicate l.length []) ((0 : Nat) : Int)) (l.map (List.map cvVersion)) := by
    refine ev_up (σ := List (List S76)) (fun ys i k => laws_toVersionSS.l0 k l ys (i : Int)) l.length (fun ys i => Filled (l.map (List.map cvVersion)) ys i) (fun _ _ => l.map (List.map cvVersion)) ?_ ?_ (List.replicate l.length []) 0 (Nat.zero_le _) (Filled.start _ _ (by simp))
    · intro ys i hi hI ih
      apply Ev.succ
      have h1 : (i : Int) < (l.length : Int) := by omega
      have h2 : (i : Int) < (ys.length : Int) := by have := hI.1; simp at this; omega
      have hrd : rd_L2 l (i : Int) = l[i] := by simp [rd_L2, hi]
      simp only [laws_toVersionSS.l0, h1, Int.natCast_nonneg, if_true]
      refine Ev.bind (ev_toVersionS _ (by rw [hrd]; exact h.2 _ (List.getElem_mem hi))) ?_
      simp only [h2, if_true, Int.toNat_natCast, wrap_up hi (by omega)]
      exact ih _ (hI.step (by simpa using hi) (by simp [hrd]))
    · intro ys hI
      apply Ev.succ
      simp only [laws_toVersionSS.l0, Int.lt_irrefl, if_false]
      exact Ev.some (Filled.done (by simpa using hI))
  unfold laws_toVersionSS.f
  have h3 : ((l.length : Int) : Int).toNat ≤ 11728124029610 := by omega
  simp only [Int.natCast_nonneg, if_true, h3]
  simpa using hh

theorem ev_eqVersionSS (l : List (List S76)) (h : l.length ≤ 1048576 ∧ ∀ e ∈ l, e.length ≤ 1048576) : Ev (fun k => laws_eqVersionSS.f k l l) true := by
  have hl := h.1
  have hh : Ev (fun k => laws_eqVersionSS.l0 k l l ((0 : Nat) : Int)) true := by
    refine ev_up (σ := Unit) (fun _ i k => laws_eqVersionSS.l0 k l l (i : Int)) l.length (fun _ _ => True) (fun _ _ => true) ?_ ?_ () 0 (Nat.zero_le _) trivial
    · intro ys i hi hI ih
      apply Ev.succ
      have h1 : (i : Int) < (l.length : Int) := by omega
      have hrd : rd_L6 l (i : Int) = l[i] := by simp [rd_L6, hi]
      simp only [laws_eqVersionSS.l0, h1, Int.natCast_nonneg, if_true]
      refine Ev.bind (ev_eqVersionS _ (by rw [hrd]; have := h.2 _ (List.getElem_mem hi); omega)) ?_
      simp only [if_true, wrap_up hi (by omega)]
      exact ih () trivial
    · intro ys hI
      apply Ev.succ
      simp only [laws_eqVersionSS.l0, Int.lt_irrefl, if_false]
      exact Ev.now _
  unfold laws_eqVersionSS.f
  simp only [if_true]
  exact hh

def mkReadMark : Int → S165 := (fun a : Int => (⟨a, a + 1⟩ : S165))
theorem ev_markReadMarkS (l : List S165) (hl : l.length ≤ 4194304) : Ev (fun k => laws_markReadMarkS.f k l 1) (1 + 2 * (l.length : Int), markL mkReadMark 2 l.length 1) := by
  have h : Ev (fun k => laws_markReadMarkS.l0 k l 1 ((0 : Nat) : Int)) (1 + 2 * (l.length : Int), markL mkReadMark 2 l.length 1) := by
    refine ev_up (σ := List S165 × Int) (fun s i k => laws_markReadMarkS.l0 k s.1 s.2 (i : Int)) l.length (fun s i => Filled (markL mkReadMark 2 l.length 1) s.1 i ∧ s.2 = 1 + 2 * (i : Int)) (fun _ _ => (1 + 2 * (l.length : Int), markL mkReadMark 2 l.length 1)) ?_ ?_ (l, 1) 0 (Nat.zero_le _) ⟨Filled.start _ _ (by simp [markL_length]), by simp⟩
    · rintro ⟨ys, a⟩ i hi ⟨hI, ha⟩ ih
      apply Ev.succ
      dsimp only at ha hI ⊢
      have hly : ys.length = l.length := by have := hI.1; simpa [markL_length] using this
      have h1 : (i : Int) < (ys.length : Int) := by omega
      have hiy : i < ys.length := by omega
      have w0 : wrap64 (a + 1) = a + 1 := wrap_in (by omega) (by omega)
      have w1 : wrap64 (a + 2) = a + 2 := wrap_in (by omega) (by omega)
      have hr := ih (ys.set i (mkReadMark a), a + 2) ⟨hI.step (by simpa [markL_length] using hi) (by rw [markL_get, ha]; rfl), by dsimp only; omega⟩
      dsimp only at hr
      simp only [laws_markReadMarkS.l0, Option.bind_some, h1, Int.natCast_nonneg, if_true, Int.toNat_natCast, wrap_up hi (by omega), w0, w1, show a + 1 + 1 = a + 2 from by omega]
      simpa [mkReadMark, rd_T165, hiy] using hr
    · rintro ⟨ys, a⟩ ⟨hI, ha⟩
      apply Ev.succ
      dsimp only at ha hI ⊢
      have hly : ys.length = l.length := by have := hI.1; simpa [markL_length] using this
      have h1 : ¬ ((l.length : Int) < (ys.length : Int)) := by omega
      simp only [laws_markReadMarkS.l0, h1, if_false]
      have hd : ys = markL mkReadMark 2 l.length 1 := Filled.done (by rw [markL_length]; exact hI)
      exact Ev.some (by rw [ha, hd])
  exact h

def mkVersion : Int → S76 := (fun a : Int => (⟨a, a + 1, a + 2, a + 3, a + 4⟩ : S76))
theorem ev_markVersionS (l : List S76) (hl : l.length ≤ 4194304) : Ev (fun k => laws_markVersionS.f k l 1) (1 + 5 * (l.length : Int), markL mkVersion 5 l.length 1) := by
  have h : Ev (fun k => laws_markVersionS.l0 k l 1 ((0 : Nat) : Int)) (1 + 5 * (l.length : Int), markL mkVersion 5 l.length 1) := by
    refine ev_up (σ := List S76 × Int) (fun s i k => laws_markVersionS.l0 k s.1 s.2 (i : Int)) l.length (fun s i => Filled (markL mkVersion 5 l.length 1) s.1 i ∧ s.2 = 1 + 5 * (i : Int)) (fun _ _ => (1 + 5 * (l.length : Int), markL mkVersion 5 l.length 1)) ?_ ?_ (l, 1) 0 (Nat.zero_le _) ⟨Filled.start _ _ (by simp [markL_length]), by simp⟩
    · rintro ⟨ys, a⟩ i hi ⟨hI, ha⟩ ih
      apply Ev.succ
      dsimp only at ha hI ⊢
      have hly : ys.length = l.length := by have := hI.1; simpa [markL_length] using this
      have h1 : (i : Int) < (ys.length : Int) := by omega
      have hiy : i < ys.length := by omega
      have w0 : wrap64 (a + 1) = a + 1 := wrap_in (by omega) (by omega)
      have w1 : wrap64 (a + 2) = a + 2 := wrap_in (by omega) (by omega)
      have w2 : wrap64 (a + 3) = a + 3 := wrap_in (by omega) (by omega)
      have w3 : wrap64 (a + 4) = a + 4 := wrap_in (by omega) (by omega)
      have w4 : wrap64 (a + 5) = a + 5 := wrap_in (by omega) (by omega)
      have hr := ih (ys.set i (mkVersion a), a + 5) ⟨hI.step (by simpa [markL_length] using hi) (by rw [markL_get, ha]; rfl), by dsimp only; omega⟩
      dsimp only at hr
      simp only [laws_markVersionS.l0, Option.bind_some, h1, Int.natCast_nonneg, if_true, Int.toNat_natCast, wrap_up hi (by omega), w0, w1, w2, w3, w4, show a + 1 + 1 = a + 2 from by omega, show a + 2 + 1 = a + 3 from by omega, show a + 3 + 1 = a + 4 from by omega, show a + 4 + 1 = a + 5 from by omega]
      simpa [mkVersion, rd_T76, hiy] using hr
    · rintro ⟨ys, a⟩ ⟨hI, ha⟩
      apply Ev.succ
      dsimp only at ha hI ⊢
      have hly : ys.length = l.length := by have := hI.1; simpa [markL_length] using this
      have h1 : ¬ ((l.length : Int) < (ys.length : Int)) := by omega
      simp only [laws_markVersionS.l0, h1, if_false]
      have hd : ys = markL mkVersion 5 l.length 1 := Filled.done (by rw [markL_length]; exact hI)
      exact Ev.some (by rw [ha, hd])
  exact h
theorem ev_heldVersionS (n : Nat) (hn : n ≤ 4194304) : Ev (fun k => laws_heldVersionS.f k (markL mkVersion 5 n 1) 1) (1 + 5 * (n : Int)) := by
  have h : Ev (fun k => laws_heldVersionS.l0 k (markL mkVersion 5 n 1) 1 ((0 : Nat) : Int)) (1 + 5 * (n : Int)) := by
    refine ev_up (σ := Int) (fun a i k => laws_heldVersionS.l0 k (markL mkVersion 5 n 1) a (i : Int)) n (fun a i => a = 1 + 5 * (i : Int)) (fun _ _ => 1 + 5 * (n : Int)) ?_ ?_ 1 0 (Nat.zero_le _) (by simp)
    · intro a i hi ha ih
      apply Ev.succ
      have h1 : (i : Int) < ((markL mkVersion 5 n 1).length : Int) := by rw [markL_length]; omega
      have hiy : i < (markL mkVersion 5 n 1).length := by rw [markL_length]; omega
      have hg : (markL mkVersion 5 n 1)[i] = mkVersion a := by rw [markL_get, ha]; rfl
      have w0 : wrap64 (a + 1) = a + 1 := wrap_in (by omega) (by omega)
      have w1 : wrap64 (a + 2) = a + 2 := wrap_in (by omega) (by omega)
      have w2 : wrap64 (a + 3) = a + 3 := wrap_in (by omega) (by omega)
      have w3 : wrap64 (a + 4) = a + 4 := wrap_in (by omega) (by omega)
      have w4 : wrap64 (a + 5) = a + 5 := wrap_in (by omega) (by omega)
      have hr := ih (a + 5) (by omega)
      have hrd : rd_T76 (markL mkVersion 5 n 1) (i : Int) = mkVersion a := by rw [← hg]; simp [rd_T76, hiy]
      simp only [laws_heldVersionS.l0, h1, Int.natCast_nonneg, if_true, hrd, wrap_up hi (by omega), w0, w1, w2, w3, w4, show a + 1 + 1 = a + 2 from by omega, show a + 2 + 1 = a + 3 from by omega, show a + 3 + 1 = a + 4 from by omega, show a + 4 + 1 = a + 5 from by omega]
      simpa [mkVersion] using hr
    · intro a ha
      apply Ev.succ
      have h1 : ¬ ((n : Int) < ((markL mkVersion 5 n 1).length : Int)) := by rw [markL_length]; omega
      simp only [laws_heldVersionS.l0, h1, if_false]
      exact Ev.some ha
  exact h

def mkWrite : Int → S133 := (fun a : Int => (⟨a, a + 1⟩ : S133))
theorem ev_markWriteS (l : List S133) (hl : l.length ≤ 4194304) : Ev (fun k => laws_markWriteS.f k l 1) (1 + 2 * (l.length : Int), markL mkWrite 2 l.length 1) := by
  have h : Ev (fun k => laws_markWriteS.l0 k l 1 ((0 : Nat) : Int)) (1 + 2 * (l.length : Int), markL mkWrite 2 l.length 1) := by
    refine ev_up (σ := List S133 × Int) (fun s i k => laws_markWriteS.l0 k s.1 s.2 (i : Int)) l.length (fun s i => Filled (markL mkWrite 2 l.length 1) s.1 i ∧ s.2 = 1 + 2 * (i : Int)) (fun _ _ => (1 + 2 * (l.length : Int), markL mkWrite 2 l.length 1)) ?_ ?_ (l, 1) 0 (Nat.zero_le _) ⟨Filled.start _ _ (by simp [markL_length]), by simp⟩
    · rintro ⟨ys, a⟩ i hi ⟨hI, ha⟩ ih
      apply Ev.succ
      dsimp only at ha hI ⊢
      have hly : ys.length = l.length := by have := hI.1; simpa [markL_length] using this
      have h1 : (i : Int) < (ys.length : Int) := by omega
      have hiy : i < ys.length := by omega
      have w0 : wrap64 (a + 1) = a + 1 := wrap_in (by omega) (by omega)
      have w1 : wrap64 (a + 2) = a + 2 := wrap_in (by omega) (by omega)
      have hr := ih (ys.set i (mkWrite a), a + 2) ⟨hI.step (by simpa [markL_length] using hi) (by rw [markL_get, ha]; rfl), by dsimp only; omega⟩
      dsimp only at hr
      simp only [laws_markWriteS.l0, Option.bind_some, h1, Int.natCast_nonneg, if_true, Int.toNat_natCast, wrap_up hi (by omega), w0, w1, show a + 1 + 1 = a + 2 from by omega]
      simpa [mkWrite, rd_T133, hiy] using hr
    · rintro ⟨ys, a⟩ ⟨hI, ha⟩
      apply Ev.succ
      dsimp only at ha hI ⊢
      have hly : ys.length = l.length := by have := hI.1; simpa [markL_length] using this
      have h1 : ¬ ((l.length : Int) < (ys.length : Int)) := by omega
      simp only [laws_markWriteS.l0, h1, if_false]
      have hd : ys = markL mkWrite 2 l.length 1 := Filled.done (by rw [markL_length]; exact hI)
      exact Ev.some (by rw [ha, hd])
  exact h


theorem l1In_eq (a b c : Int) : spec_l1In.f a b c = some (decide (b ≤ a) && decide (a ≤ c)) := by
  by_cases h : b ≤ a <;> simp [spec_l1In.f, h]
theorem in_eq (a b c : Int) : impl_in.f a b c = some (decide (b ≤ a) && decide (a ≤ c)) := by
  by_cases h : b ≤ a <;> simp [impl_in.f, h]
theorem ex_succ {α : Type} {g : Nat → Option α} {P : α → Prop} (h : ∃ r, Ev (fun k => g (k + 1)) r ∧ P r) : ∃ r, Ev g r ∧ P r := by
  obtain ⟨r, a, b⟩ := h
  exact ⟨r, Ev.succ a, b⟩
theorem ex_ite {α : Type} {c : Prop} [Decidable c] {f g : Nat → Option α} {P : α → Prop} (h1 : c → ∃ r, Ev f r ∧ P r) (h2 : ¬ c → ∃ r, Ev g r ∧ P r) : ∃ r, Ev (fun k => if c then f k else g k) r ∧ P r := by
  by_cases h : c
  · simpa only [if_pos h] using h1 h
  · simpa only [if_neg h] using h2 h
theorem ex_now {α : Type} {x : α} {P : α → Prop} (h : P x) : ∃ r, Ev (fun _ => some x) r ∧ P r := ⟨x, Ev.now _, h⟩
theorem ex_bind {α β : Type} {x : Option α} {a : α} (e : x = some a) {g : Nat → α → Option β} {P : β → Prop} (h : ∃ r, Ev (fun k => g k a) r ∧ P r) : ∃ r, Ev (fun k => x.bind (g k)) r ∧ P r := by
  subst e; exact h
theorem ex_bindE {α β : Type} {f : Nat → Option α} {a : α} (e : Ev f a) {g : Nat → α → Option β} {P : β → Prop} (h : ∃ r, Ev (fun k => g k a) r ∧ P r) : ∃ r, Ev (fun k => (f k).bind (g k)) r ∧ P r := by
  obtain ⟨r, h1, h2⟩ := h
  exact ⟨r, Ev.bind e h1, h2⟩
theorem compare_eq (a b : Int) : cmp_Compare_int.f a b = some (if a < b then -1 else if a > b then 1 else 0) := by
  by_cases h : a < b <;> by_cases h' : a > b <;> simp [cmp_Compare_int.f, cmp_isNaN_int.f, h, h']
theorem ev_or (x y : Int) : Ev (fun k => cmp_Or_int.f k [x, y]) (if x = 0 then y else x) := by
  show Ev (fun k => cmp_Or_int.l0 k 0 [x, y] (2 : Int) 0) _
  apply Ev.succ
  by_cases hx : x = 0
  · simp only [cmp_Or_int.l0, hx, rd, wrap64, if_true]
    apply Ev.succ
    by_cases hy : y = 0
    · subst hy
      simp [cmp_Or_int.l0, rd, wrap64]
      apply Ev.succ
      simp [cmp_Or_int.l0]; exact Ev.now _
    · simp [cmp_Or_int.l0, rd, wrap64, hy]; exact Ev.now _
  · simp [cmp_Or_int.l0, rd, hx]; exact Ev.now _
theorem ev_cmp (a b c d : Int) : ∃ v, Ev (fun k => impl_compareMarks.f k a b c d) v ∧ spec_l5Before.f a b c d = some (decide (v < 0)) := by
  refine ⟨if (if a < c then -1 else if a > c then 1 else 0) = (0 : Int) then (if b < d then -1 else if b > d then 1 else 0) else (if a < c then -1 else if a > c then 1 else 0), ?_, ?_⟩
  · unfold impl_compareMarks.f
    simp only [compare_eq, Option.bind_some]
    exact Ev.bind (ev_or _ _) (Ev.now _)
  · unfold spec_l5Before.f
    by_cases h1 : a < c
    · simp [h1]
    · by_cases h2 : a > c
      · have h3 : ¬ a = c := by omega
        simp [h1, h2, h3]
      · have h3 : a = c := by omega
        by_cases h4 : b < d
        · simp [h3, h4]
        · by_cases h5 : b > d <;> simp [h3, h4, h5]
theorem both_reads (a0 a1 a2 a3 a4 a5 a6 : Int) (rs : List S165) (ws : List S133) (hl : rs.length ≤ 1048576) (r : Bool) (hr : Ev (fun k => spec_IsValidTransaction.l1 k 0 a0 a1 a2 a3 a4 a5 a6 rs ws) r) :
    ∃ x y, Ev (fun k => impl_areReads.f k rs) x ∧ Ev (fun k => spec_IsValidTransaction.l0 k ((0 : Nat) : Int) a0 a1 a2 a3 a4 a5 a6 rs ws) y ∧ ∃ rb : Bool, x = (rb && decide ((rs.length : Int) ≤ 60)) ∧ y = (rb && r) := by
  refine ev_two (σ := Unit) (τ := Unit) (fun _ i k => impl_areReads.l0 k rs rs (rs.length : Int) (i : Int)) (fun _ i k => spec_IsValidTransaction.l0 k (i : Int) a0 a1 a2 a3 a4 a5 a6 rs ws) rs.length (fun _ _ _ => True) (fun x y => ∃ rb : Bool, x = (rb && decide ((rs.length : Int) ≤ 60)) ∧ y = (rb && r)) ?_ ?_ () () 0 (Nat.zero_le _) trivial
  · intro _ _ i hi _ ih
    have h1 : (i : Int) < (rs.length : Int) := by omega
    have e0 := wrap_up hi (by omega)
    obtain ⟨x, y, hx, hy, rb, rfl, rfl⟩ := ih () () trivial
    have iT : Ev (fun k => impl_areReads.j1 k rs (i : Int) rs (rs.length : Int) true) false := Ev.succ (by simp only [impl_areReads.j1, if_true]; exact Ev.now _)
    have sT : Ev (fun k => spec_IsValidTransaction.j1 k (i : Int) true a0 a1 a2 a3 a4 a5 a6 rs ws) false := Ev.succ (by simp only [spec_IsValidTransaction.j1, if_true]; exact Ev.now _)
    have iF : Ev (fun k => impl_areReads.j1 k rs (i : Int) rs (rs.length : Int) false) (rb && decide ((rs.length : Int) ≤ 60)) := Ev.succ (by simp only [impl_areReads.j1, Bool.false_eq_true, if_false, e0]; exact hx)
    have sF : Ev (fun k => spec_IsValidTransaction.j1 k (i : Int) false a0 a1 a2 a3 a4 a5 a6 rs ws) (rb && r) := Ev.succ (by simp only [spec_IsValidTransaction.j1, Bool.false_eq_true, if_false, e0]; exact hy)
    by_cases ck : (decide (0 ≤ (rd_T165 rs (i : Int)).f0) && decide ((rd_T165 rs (i : Int)).f0 ≤ 5)) = true
    rotate_left 1
    · refine ⟨false, false, Ev.succ ?_, Ev.succ ?_, false, by simp, by simp⟩
      · simp only [impl_areReads.l0, impl_isKey.f, in_eq, h1, ck, Int.natCast_nonneg, if_true, if_false, Option.bind_some]; exact iT
      · simp only [spec_IsValidTransaction.l0, l1In_eq, h1, ck, Int.natCast_nonneg, if_true, if_false, Option.bind_some]; exact sT
    by_cases cc : (decide (0 ≤ (rd_T165 rs (i : Int)).f1) && decide ((rd_T165 rs (i : Int)).f1 ≤ 999)) = true
    rotate_left 1
    · refine ⟨false, false, Ev.succ ?_, Ev.succ ?_, false, by simp, by simp⟩
      · simp only [impl_areReads.l0, impl_isKey.f, in_eq, h1, ck, cc, Int.natCast_nonneg, if_true, if_false, Option.bind_some]; exact iT
      · simp only [spec_IsValidTransaction.l0, l1In_eq, h1, ck, cc, Int.natCast_nonneg, if_true, if_false, Option.bind_some]; exact sT
    by_cases h0 : 0 < i
    · have e1 : wrap64 ((i : Int) - 1) = ((i - 1 : Nat) : Int) := wrap_down h0 (by omega)
      have h2 : ((i - 1 : Nat) : Int) < (rs.length : Int) := by omega
      have h3 : (i : Int) > 0 := by omega
      obtain ⟨v, ev, hb⟩ := ev_cmp (rd_T165 rs ((i - 1 : Nat) : Int)).f0 (rd_T165 rs ((i - 1 : Nat) : Int)).f1 (rd_T165 rs (i : Int)).f0 (rd_T165 rs (i : Int)).f1
      by_cases hv : v < 0
      · have hv' : ¬ v ≥ 0 := by omega
        refine ⟨(rb && decide ((rs.length : Int) ≤ 60)), (rb && r), Ev.succ ?_, Ev.succ ?_, rb, rfl, rfl⟩
        · simp only [impl_areReads.l0, impl_isKey.f, in_eq, h1, h2, h3, e1, ck, cc, Int.natCast_nonneg, if_true, Option.bind_some]
          refine Ev.bind ev ?_
          simp only [hv', decide_false]; exact iF
        · simp only [spec_IsValidTransaction.l0, l1In_eq, hb, hv, h1, h2, h3, e1, ck, cc, Int.natCast_nonneg, if_true, Option.bind_some, decide_true, Bool.not_true]; exact sF
      · have hv' : v ≥ 0 := by omega
        refine ⟨false, false, Ev.succ ?_, Ev.succ ?_, false, by simp, by simp⟩
        · simp only [impl_areReads.l0, impl_isKey.f, in_eq, h1, h2, h3, e1, ck, cc, Int.natCast_nonneg, if_true, Option.bind_some]
          refine Ev.bind ev ?_
          simp only [hv', decide_true]; exact iT
        · simp only [spec_IsValidTransaction.l0, l1In_eq, hb, hv, h1, h2, h3, e1, ck, cc, Int.natCast_nonneg, if_true, Option.bind_some, decide_false, Bool.not_false]; exact sT
    · have h3 : ¬ (i : Int) > 0 := by omega
      refine ⟨(rb && decide ((rs.length : Int) ≤ 60)), (rb && r), Ev.succ ?_, Ev.succ ?_, rb, rfl, rfl⟩
      · simp only [impl_areReads.l0, impl_isKey.f, in_eq, h1, h3, ck, cc, Int.natCast_nonneg, if_true, if_false, Option.bind_some]; exact iF
      · simp only [spec_IsValidTransaction.l0, l1In_eq, h1, h3, ck, cc, Int.natCast_nonneg, if_true, if_false, Option.bind_some]; exact sF
  · intro _ _ _
    refine ⟨decide ((rs.length : Int) ≤ 60), r, Ev.succ ?_, Ev.succ ?_, true, (Bool.true_and _).symm, (Bool.true_and _).symm⟩
    · simp only [impl_areReads.l0, Int.lt_irrefl, if_false]; exact Ev.now _
    · simp only [spec_IsValidTransaction.l0, Int.lt_irrefl, if_false]; exact hr
def tailOf (a0 a1 a2 a3 a4 a5 a6 : Int) (n : Int) : Bool :=
  ((decide (1 ≤ a0) && decide (a0 ≤ 9)) && ((decide (1 ≤ a1) && decide (a1 ≤ 4)) && (decide (0 ≤ a3) && decide (a3 ≤ 999)))) &&
  ((decide (1 ≤ a2) && decide (a2 ≤ 3)) && ((decide (0 ≤ a4) && decide (a4 ≤ 999)) && ((decide (1 ≤ a5) && decide (a5 ≤ 1000)) && (((a2 == 2) == decide (a6 > 0)) && ((decide (0 ≤ a6) && decide (a6 ≤ 999)) && decide (n ≤ 60))))))
theorem both_writes (a0 a1 a2 a3 a4 a5 a6 : Int) (rs : List S165) (ws : List S133) (hl : ws.length ≤ 1048576) :
    ∃ x y, Ev (fun k => impl_areWrites.f k ws) x ∧ Ev (fun k => spec_IsValidTransaction.l1 k ((0 : Nat) : Int) a0 a1 a2 a3 a4 a5 a6 rs ws) y ∧ y = (x && tailOf a0 a1 a2 a3 a4 a5 a6 (rs.length : Int)) := by
  refine ev_two (σ := Unit) (τ := Unit) (fun _ i k => impl_areWrites.l0 k ws ws (ws.length : Int) (i : Int)) (fun _ i k => spec_IsValidTransaction.l1 k (i : Int) a0 a1 a2 a3 a4 a5 a6 rs ws) ws.length (fun _ _ _ => True) (fun x y => y = (x && tailOf a0 a1 a2 a3 a4 a5 a6 (rs.length : Int))) ?_ ?_ () () 0 (Nat.zero_le _) trivial
  · intro _ _ i hi _ ih
    have h1 : (i : Int) < (ws.length : Int) := by omega
    have e0 := wrap_up hi (by omega)
    obtain ⟨x, y, hx, hy, rfl⟩ := ih () () trivial
    have iT : Ev (fun k => impl_areWrites.j1 k ws (i : Int) ws (ws.length : Int) true) false := Ev.succ (by simp only [impl_areWrites.j1, if_true]; exact Ev.now _)
    have sT : Ev (fun k => spec_IsValidTransaction.j3 k (i : Int) true a0 a1 a2 a3 a4 a5 a6 rs ws) false := Ev.succ (by simp only [spec_IsValidTransaction.j3, if_true]; exact Ev.now _)
    have iF : Ev (fun k => impl_areWrites.j1 k ws (i : Int) ws (ws.length : Int) false) x := Ev.succ (by simp only [impl_areWrites.j1, Bool.false_eq_true, if_false, e0]; exact hx)
    have sF : Ev (fun k => spec_IsValidTransaction.j3 k (i : Int) false a0 a1 a2 a3 a4 a5 a6 rs ws) (x && tailOf a0 a1 a2 a3 a4 a5 a6 (rs.length : Int)) := Ev.succ (by simp only [spec_IsValidTransaction.j3, Bool.false_eq_true, if_false, e0]; exact hy)
    by_cases ck : (decide (0 ≤ (rd_T133 ws (i : Int)).f0) && decide ((rd_T133 ws (i : Int)).f0 ≤ 5)) = true
    rotate_left 1
    · refine ⟨false, false, Ev.succ ?_, Ev.succ ?_, by simp⟩
      · simp only [impl_areWrites.l0, impl_isKey.f, in_eq, h1, ck, Int.natCast_nonneg, if_true, if_false, Option.bind_some]; exact iT
      · simp only [spec_IsValidTransaction.l1, l1In_eq, h1, ck, Int.natCast_nonneg, if_true, if_false, Option.bind_some]; exact sT
    by_cases cc : (decide (-1 ≤ (rd_T133 ws (i : Int)).f1) && decide ((rd_T133 ws (i : Int)).f1 ≤ 99)) = true
    rotate_left 1
    · refine ⟨false, false, Ev.succ ?_, Ev.succ ?_, by simp⟩
      · simp only [impl_areWrites.l0, impl_isKey.f, impl_isValue.f, in_eq, h1, ck, cc, Int.natCast_nonneg, if_true, if_false, Option.bind_some]; exact iT
      · simp only [spec_IsValidTransaction.l1, l1In_eq, h1, ck, cc, Int.natCast_nonneg, if_true, if_false, Option.bind_some]; exact sT
    by_cases h0 : 0 < i
    · have e1 : wrap64 ((i : Int) - 1) = ((i - 1 : Nat) : Int) := wrap_down h0 (by omega)
      have h2 : ((i - 1 : Nat) : Int) < (ws.length : Int) := by omega
      have h3 : (i : Int) > 0 := by omega
      by_cases hv : (rd_T133 ws ((i - 1 : Nat) : Int)).f0 ≥ (rd_T133 ws (i : Int)).f0
      · refine ⟨false, false, Ev.succ ?_, Ev.succ ?_, by simp⟩
        · simp only [impl_areWrites.l0, impl_isKey.f, impl_isValue.f, in_eq, h1, h2, h3, e1, hv, ck, cc, Int.natCast_nonneg, if_true, Option.bind_some, decide_true]; exact iT
        · simp only [spec_IsValidTransaction.l1, l1In_eq, h1, h2, h3, e1, hv, ck, cc, Int.natCast_nonneg, if_true, Option.bind_some, decide_true]; exact sT
      · refine ⟨x, (x && tailOf a0 a1 a2 a3 a4 a5 a6 (rs.length : Int)), Ev.succ ?_, Ev.succ ?_, rfl⟩
        · simp only [impl_areWrites.l0, impl_isKey.f, impl_isValue.f, in_eq, h1, h2, h3, e1, hv, ck, cc, Int.natCast_nonneg, if_true, Option.bind_some, decide_false]; exact iF
        · simp only [spec_IsValidTransaction.l1, l1In_eq, h1, h2, h3, e1, hv, ck, cc, Int.natCast_nonneg, if_true, Option.bind_some, decide_false]; exact sF
    · have h3 : ¬ (i : Int) > 0 := by omega
      refine ⟨x, (x && tailOf a0 a1 a2 a3 a4 a5 a6 (rs.length : Int)), Ev.succ ?_, Ev.succ ?_, rfl⟩
      · simp only [impl_areWrites.l0, impl_isKey.f, impl_isValue.f, in_eq, h1, h3, ck, cc, Int.natCast_nonneg, if_true, if_false, Option.bind_some]; exact iF
      · simp only [spec_IsValidTransaction.l1, l1In_eq, h1, h3, ck, cc, Int.natCast_nonneg, if_true, if_false, Option.bind_some]; exact sF
  · intro _ _ _
    refine ⟨true, tailOf a0 a1 a2 a3 a4 a5 a6 (rs.length : Int), Ev.succ ?_, Ev.succ ?_, (Bool.true_and _).symm⟩
    · simp only [impl_areWrites.l0, Int.lt_irrefl, if_false]; exact Ev.now _
    · have jT : Ev (fun k => spec_IsValidTransaction.j4 k true a0 a1 a2 a3 a4 a5 a6 rs ws) false := Ev.succ (by simp only [spec_IsValidTransaction.j4, if_true]; exact Ev.now _)
      have jF : Ev (fun k => spec_IsValidTransaction.j4 k false a0 a1 a2 a3 a4 a5 a6 rs ws) ((decide (1 ≤ a2) && decide (a2 ≤ 3)) && ((decide (0 ≤ a4) && decide (a4 ≤ 999)) && ((decide (1 ≤ a5) && decide (a5 ≤ 1000)) && (((a2 == 2) == decide (a6 > 0)) && ((decide (0 ≤ a6) && decide (a6 ≤ 999)) && decide ((rs.length : Int) ≤ 60)))))) := by
        apply Ev.succ
        simp only [spec_IsValidTransaction.j4, Bool.false_eq_true, if_false, l1In_eq, Option.bind_some]
        generalize (decide (1 ≤ a2) && decide (a2 ≤ 3)) = b2
        generalize (decide (0 ≤ a4) && decide (a4 ≤ 999)) = b4
        generalize (decide (1 ≤ a5) && decide (a5 ≤ 1000)) = b5
        generalize ((a2 == 2) == decide (a6 > 0)) = b6
        generalize (decide (0 ≤ a6) && decide (a6 ≤ 999)) = b7
        cases b2 <;> cases b4 <;> cases b5 <;> cases b6 <;> cases b7 <;> simp only [Bool.false_eq_true, if_false, if_true, Bool.false_and, Bool.true_and] <;> exact Ev.now _
      simp only [spec_IsValidTransaction.l1, Int.lt_irrefl, if_false, l1In_eq, Option.bind_some]
      unfold tailOf
      revert jF
      generalize ((decide (1 ≤ a2) && decide (a2 ≤ 3)) && ((decide (0 ≤ a4) && decide (a4 ≤ 999)) && ((decide (1 ≤ a5) && decide (a5 ≤ 1000)) && (((a2 == 2) == decide (a6 > 0)) && ((decide (0 ≤ a6) && decide (a6 ≤ 999)) && decide ((rs.length : Int) ≤ 60)))))) = bt
      intro jF
      generalize (decide (1 ≤ a0) && decide (a0 ≤ 9)) = b0
      generalize (decide (1 ≤ a1) && decide (a1 ≤ 4)) = b1
      generalize (decide (0 ≤ a3) && decide (a3 ≤ 999)) = b3
      cases b0 <;> cases b1 <;> cases b3 <;> simp only [Bool.false_eq_true, if_false, if_true, Bool.false_and, Bool.true_and, Bool.not_true, Bool.not_false, Bool.and_false, Bool.and_true] <;> first | exact jT | exact jF
theorem both_IsValidTransaction (a0 a1 a2 a3 a4 a5 a6 : Int) (rs : List S165) (ws : List S133) (hl : rs.length ≤ 1048576) (hw : ws.length ≤ 1048576) :
    ∃ b : Bool, Ev (fun k => spec_IsValidTransaction.f k a0 a1 a2 a3 a4 a5 a6 rs ws) b ∧ Ev (fun k => impl_IsValidTransaction.f k a0 a1 a2 a3 a4 a5 a6 rs ws) b ∧ (b = true → (a2 = 2 ∨ a6 = 0) ∧ 0 ≤ a6) := by
  obtain ⟨wb, y1, hwi, hws, rfl⟩ := both_writes a0 a1 a2 a3 a4 a5 a6 rs ws hw
  obtain ⟨x, y, hri, hrs, rb, rfl, rfl⟩ := both_reads a0 a1 a2 a3 a4 a5 a6 rs ws hl _ hws
  have hc : (((a2 == 2) == decide (a6 > 0)) && (decide (0 ≤ a6) && decide (a6 ≤ 999))) = (if a2 = 2 then (decide (1 ≤ a6) && decide (a6 ≤ 999)) else (a6 == 0)) := by
    by_cases c2 : a2 = 2
    · by_cases d1 : 1 ≤ a6
      · have d0 : a6 > 0 := by omega
        have d3 : 0 ≤ a6 := by omega
        simp [c2, d1, d0, d3]
      · have d0 : ¬ a6 > 0 := by omega
        simp [c2, d1, d0]
    · by_cases d1 : a6 = 0
      · simp [c2, d1]
      · by_cases d0 : a6 > 0
        · have e2 : (a2 == 2) = false := by simpa using c2
          have e6 : (a6 == 0) = false := by simpa using d1
          simp [c2, e2, e6, d0]
        · have d3 : ¬ 0 ≤ a6 := by omega
          simp [c2, d1, d0, d3]
  have jT : Ev (fun k => impl_IsValidTransaction.j0 k true a0 a1 a2 a3 a4 a5 a6 rs ws) false := Ev.succ (by simp only [impl_IsValidTransaction.j0, if_true]; exact Ev.now _)
  have kT : Ev (fun k => impl_IsValidTransaction.j1 k true a0 a1 a2 a3 a4 a5 a6 rs ws) false := Ev.succ (by simp only [impl_IsValidTransaction.j1, if_true]; exact Ev.now _)
  have kF : Ev (fun k => impl_IsValidTransaction.j1 k false a0 a1 a2 a3 a4 a5 a6 rs ws) ((rb && decide ((rs.length : Int) ≤ 60)) && wb) := by
    apply Ev.succ
    simp only [impl_IsValidTransaction.j1, Bool.false_eq_true, if_false]
    refine Ev.bind hri ?_
    cases (rb && decide ((rs.length : Int) ≤ 60))
    · simp only [Bool.false_eq_true, if_false, Bool.false_and]; exact Ev.now _
    · simp only [if_true, Bool.true_and]; exact Ev.bind hwi (Ev.now _)
  have jF : Ev (fun k => impl_IsValidTransaction.j0 k false a0 a1 a2 a3 a4 a5 a6 rs ws) ((if a2 = 2 then (decide (1 ≤ a6) && decide (a6 ≤ 999)) else (a6 == 0)) && ((rb && decide ((rs.length : Int) ≤ 60)) && wb)) := by
    apply Ev.succ
    simp only [impl_IsValidTransaction.j0, impl_IsStamp.f, in_eq, Bool.false_eq_true, if_false, Option.bind_some]
    by_cases c2 : a2 = 2
    · simp only [c2, if_true]
      rw [c2] at kT kF
      cases (decide (1 ≤ a6) && decide (a6 ≤ 999))
      · simp only [Bool.false_eq_true, if_false, Bool.false_and]; exact kT
      · simp only [if_true, Bool.true_and]; exact kF
    · simp only [c2, if_false]
      by_cases c6 : a6 = 0
      · have : (a6 != 0) = false := by simp [c6]
        have h6 : (a6 == 0) = true := by simp [c6]
        simp only [this, h6, Bool.true_and]; exact kF
      · have : (a6 != 0) = true := by simp [c6]
        have h6 : (a6 == 0) = false := by simp [c6]
        simp only [this, h6, Bool.false_and]; exact kT
  have hi : Ev (fun k => impl_IsValidTransaction.f k a0 a1 a2 a3 a4 a5 a6 rs ws) ((decide (1 ≤ a0) && decide (a0 ≤ 9)) && ((decide (1 ≤ a1) && decide (a1 ≤ 4)) && ((decide (1 ≤ a2) && decide (a2 ≤ 3)) && ((decide (0 ≤ a3) && decide (a3 ≤ 999)) && ((decide (0 ≤ a4) && decide (a4 ≤ 999)) && ((decide (1 ≤ a5) && decide (a5 ≤ 1000)) && ((if a2 = 2 then (decide (1 ≤ a6) && decide (a6 ≤ 999)) else (a6 == 0)) && ((rb && decide ((rs.length : Int) ≤ 60)) && wb)))))))) := by
    revert jF
    generalize ((if a2 = 2 then (decide (1 ≤ a6) && decide (a6 ≤ 999)) else (a6 == 0)) && ((rb && decide ((rs.length : Int) ≤ 60)) && wb)) = bt
    intro jF
    unfold impl_IsValidTransaction.f
    simp only [impl_isID.f, impl_isScheme.f, in_eq, Option.bind_some]
    generalize (decide (1 ≤ a0) && decide (a0 ≤ 9)) = b0
    generalize (decide (1 ≤ a1) && decide (a1 ≤ 4)) = b1
    generalize (decide (1 ≤ a2) && decide (a2 ≤ 3)) = b2
    generalize (decide (0 ≤ a3) && decide (a3 ≤ 999)) = b3
    generalize (decide (0 ≤ a4) && decide (a4 ≤ 999)) = b4
    generalize (decide (1 ≤ a5) && decide (a5 ≤ 1000)) = b5
    cases b0 <;> cases b1 <;> cases b2 <;> cases b3 <;> cases b4 <;> cases b5 <;> simp only [Bool.false_eq_true, if_false, if_true, Bool.false_and, Bool.true_and, Bool.not_true, Bool.not_false, Bool.and_false, Bool.and_true] <;> first | exact jT | exact jF
  refine ⟨_, hrs, ?_, ?_⟩
  · have he : (rb && (wb && tailOf a0 a1 a2 a3 a4 a5 a6 (rs.length : Int))) = _ := rfl
    have heq : (rb && (wb && tailOf a0 a1 a2 a3 a4 a5 a6 (rs.length : Int))) = ((decide (1 ≤ a0) && decide (a0 ≤ 9)) && ((decide (1 ≤ a1) && decide (a1 ≤ 4)) && ((decide (1 ≤ a2) && decide (a2 ≤ 3)) && ((decide (0 ≤ a3) && decide (a3 ≤ 999)) && ((decide (0 ≤ a4) && decide (a4 ≤ 999)) && ((decide (1 ≤ a5) && decide (a5 ≤ 1000)) && ((if a2 = 2 then (decide (1 ≤ a6) && decide (a6 ≤ 999)) else (a6 == 0)) && ((rb && decide ((rs.length : Int) ≤ 60)) && wb)))))))) := by
      rw [← hc]
      unfold tailOf
      generalize (decide (1 ≤ a0) && decide (a0 ≤ 9)) = b0
      generalize (decide (1 ≤ a1) && decide (a1 ≤ 4)) = b1
      generalize (decide (1 ≤ a2) && decide (a2 ≤ 3)) = b2
      generalize (decide (0 ≤ a3) && decide (a3 ≤ 999)) = b3
      generalize (decide (0 ≤ a4) && decide (a4 ≤ 999)) = b4
      generalize (decide (1 ≤ a5) && decide (a5 ≤ 1000)) = b5
      generalize ((a2 == 2) == decide (a6 > 0)) = b6
      generalize (decide (0 ≤ a6) && decide (a6 ≤ 999)) = b7
      generalize decide ((rs.length : Int) ≤ 60) = b8
      cases b0 <;> cases b1 <;> cases b2 <;> cases b3 <;> cases b4 <;> cases b5 <;> cases b6 <;> cases b7 <;> cases b8 <;> cases rb <;> cases wb <;> rfl
    rw [heq]; exact hi
  · intro hb
    simp only [tailOf, Bool.and_eq_true] at hb
    obtain ⟨_, _, _, _, _, _, h6, h7, _⟩ := hb
    refine ⟨?_, by simpa using h7.1⟩
    by_cases c2 : a2 = 2
    · exact .inl c2
    · have hcc := hc
      rw [h6, Bool.true_and, if_neg c2] at hcc
      have : (decide (0 ≤ a6) && decide (a6 ≤ 999)) = true := by simp only [Bool.and_eq_true]; exact h7
      rw [this] at hcc
      exact .inr (by simpa using hcc.symm)
def vok (a0 a1 a2 a3 a4 : Int) : Bool := (decide (-1 ≤ a1) && decide (a1 ≤ 99)) && ((decide (0 ≤ a2) && decide (a2 ≤ 999)) && ((decide (a2 ≤ a3) && decide (a3 ≤ 999)) && ((decide (1 ≤ a4) && decide (a4 ≤ 1000)) && (if a2 = 0 then (if a0 = 0 then (a1 == -1) else false) else (decide (1 ≤ a0) && decide (a0 ≤ 9))))))
theorem version_both (a0 a1 a2 a3 a4 : Int) : Ev (fun k => spec_IsValidVersion.f k a0 a1 a2 a3 a4) (vok a0 a1 a2 a3 a4) ∧ Ev (fun k => impl_IsValidVersion.f k a0 a1 a2 a3 a4) (vok a0 a1 a2 a3 a4) := by
  have jS : ∀ t : Bool, Ev (fun k => spec_IsValidVersion.j0 k t a0 a1 a2 a3 a4) (!t && (if a2 = 0 then (if a0 = 0 then (a1 == -1) else false) else (decide (1 ≤ a0) && decide (a0 ≤ 9)))) := by
    intro t
    apply Ev.succ
    cases t
    · simp only [spec_IsValidVersion.j0, l1In_eq, Bool.false_eq_true, if_false, Option.bind_some, Bool.not_false, Bool.true_and]
      by_cases c : a2 = 0 <;> by_cases d : a0 = 0 <;> simp only [c, d, if_true, if_false] <;> exact Ev.now _
    · simp only [spec_IsValidVersion.j0, if_true, Bool.not_true, Bool.false_and]; exact Ev.now _
  have jI : ∀ t : Bool, Ev (fun k => impl_IsValidVersion.j0 k t a0 a1 a2 a3 a4) (!t && (if a2 = 0 then (if a0 = 0 then (a1 == -1) else false) else (decide (1 ≤ a0) && decide (a0 ≤ 9)))) := by
    intro t
    apply Ev.succ
    cases t
    · simp only [impl_IsValidVersion.j0, impl_isID.f, in_eq, Bool.false_eq_true, if_false, Option.bind_some, Bool.not_false, Bool.true_and]
      by_cases c : a2 = 0 <;> by_cases d : a0 = 0 <;> simp only [c, d, if_true, if_false] <;> exact Ev.now _
    · simp only [impl_IsValidVersion.j0, if_true, Bool.not_true, Bool.false_and]; exact Ev.now _
  unfold vok
  revert jS jI
  generalize (if a2 = 0 then (if a0 = 0 then (a1 == -1) else false) else (decide (1 ≤ a0) && decide (a0 ≤ 9))) = v
  intro jS jI
  constructor
  · unfold spec_IsValidVersion.f
    simp only [l1In_eq, Option.bind_some]
    cases (decide (-1 ≤ a1) && decide (a1 ≤ 99)) <;> cases (decide (0 ≤ a2) && decide (a2 ≤ 999)) <;> cases (decide (a2 ≤ a3) && decide (a3 ≤ 999)) <;> cases (decide (1 ≤ a4) && decide (a4 ≤ 1000)) <;> simp only [Bool.false_eq_true, if_false, if_true, Bool.false_and, Bool.true_and] <;> first | exact jS true | exact jS false
  · unfold impl_IsValidVersion.f
    simp only [impl_isValue.f, in_eq, Option.bind_some]
    cases (decide (-1 ≤ a1) && decide (a1 ≤ 99)) <;> cases (decide (0 ≤ a2) && decide (a2 ≤ 999)) <;> cases (decide (a2 ≤ a3) && decide (a3 ≤ 999)) <;> cases (decide (1 ≤ a4) && decide (a4 ≤ 1000)) <;> simp only [Bool.false_eq_true, if_false, if_true, Bool.false_and, Bool.true_and] <;> first | exact jI true | exact jI false
theorem vok_stamp {a0 a1 a2 a3 a4 : Int} (h : vok a0 a1 a2 a3 a4 = true) : 0 ≤ a2 ∧ a2 ≤ 999 := by
  unfold vok at h
  simp only [Bool.and_eq_true, decide_eq_true_eq] at h
  exact h.2.1
def vat (l : List S76) (j : Nat) : Bool := vok (rd_T76 l (j : Int)).f0 (rd_T76 l (j : Int)).f1 (rd_T76 l (j : Int)).f2 (rd_T76 l (j : Int)).f3 (rd_T76 l (j : Int)).f4
def step (l : List S76) (j : Nat) : Prop := (rd_T76 l (j : Int)).f2 < (rd_T76 l ((j + 1 : Nat) : Int)).f2 ∧ (rd_T76 l (j : Int)).f4 ≤ (rd_T76 l ((j + 1 : Nat) : Int)).f2
def VC (l : List S76) : Prop := (∀ j : Nat, j < l.length → vat l j = true) ∧ (∀ j : Nat, j + 1 < l.length → step l j) ∧ 0 < l.length ∧ (rd_T76 l ((l.length - 1 : Nat) : Int)).f4 = 1000
theorem chain_spec (l : List S76) (hl : l.length ≤ 1048576) : ∃ r, Ev (fun k => spec_IsValidChain.f k l) r ∧ (r = true ↔ VC l) := by
  refine ev_to (σ := Unit) (fun _ i k => spec_IsValidChain.l0 k l (i : Int)) l.length (fun _ i => (∀ j, j < i → vat l j = true) ∧ ∀ j, j < i → j + 1 < l.length → step l j) (fun r => r = true ↔ VC l) ?_ ?_ () 0 (Nat.zero_le _) ⟨fun j hj => absurd hj (by omega), fun j hj => absurd hj (by omega)⟩
  · rintro _ i hi ⟨hv, hs⟩ ih
    have h1 : (i : Int) < (l.length : Int) := by omega
    have e0 := wrap_up hi (by omega)
    have ev := (version_both (rd_T76 l (i : Int)).f0 (rd_T76 l (i : Int)).f1 (rd_T76 l (i : Int)).f2 (rd_T76 l (i : Int)).f3 (rd_T76 l (i : Int)).f4).1
    have hf : ∀ {P : Prop}, ¬ P → ((false = true) ↔ P) := fun h => ⟨fun h' => (nomatch h'), fun h' => absurd h' h⟩
    apply ex_succ
    simp only [spec_IsValidChain.l0]
    rw [e0]
    refine ex_ite (fun _ => ?_) (fun c => absurd h1 c)
    refine ex_ite (fun _ => ?_) (fun c => absurd (Int.natCast_nonneg i) c)
    refine ex_bindE ev ?_
    have hva : vat l i = vok (rd_T76 l (i : Int)).f0 (rd_T76 l (i : Int)).f1 (rd_T76 l (i : Int)).f2 (rd_T76 l (i : Int)).f3 (rd_T76 l (i : Int)).f4 := rfl
    refine ex_ite (fun c1 => ?_) (fun c1 => ex_now (hf (fun h => c1 (by rw [← hva]; exact h.1 i hi))))
    have hv' : ∀ j, j < i + 1 → vat l j = true := fun j hj => if hh : j < i then hv j hh else by obtain rfl : j = i := (by omega); rw [hva]; exact c1
    refine ex_ite (fun c2 => ?_) (fun c2 => ih () ⟨hv', fun j hj hjl => if hh : j < i then hs j hh hjl else by omega⟩)
    have c2' : i + 1 < l.length := by omega
    refine ex_ite (fun _ => ?_) (fun c => absurd (Int.natCast_nonneg _) c)
    refine ex_ite (fun c3 => ex_now (hf (fun h => by have := (h.2.1 i c2').1; omega))) (fun c3 => ?_)
    refine ex_ite (fun c4 => ex_now (hf (fun h => by have := (h.2.1 i c2').2; omega))) (fun c4 => ?_)
    exact ih () ⟨hv', fun j hj hjl => if hh : j < i then hs j hh hjl else by obtain rfl : j = i := (by omega); exact ⟨by omega, by omega⟩⟩
  · rintro _ ⟨hv, hs⟩
    have hf : ∀ {P : Prop}, ¬ P → ((false = true) ↔ P) := fun h => ⟨fun h' => (nomatch h'), fun h' => absurd h' h⟩
    apply ex_succ
    simp only [spec_IsValidChain.l0]
    refine ex_ite (fun c => absurd c (Int.lt_irrefl _)) (fun _ => ?_)
    refine ex_ite (fun c1 => ?_) (fun c1 => ex_now (hf (fun h => c1 (by have := h.2.2.1; omega))))
    have e1 : wrap64 ((l.length : Int) - 1) = ((l.length - 1 : Nat) : Int) := wrap_down (by omega) (by omega)
    rw [e1]
    refine ex_ite (fun _ => ?_) (fun c => absurd (Int.natCast_nonneg _) c)
    refine ex_ite (fun _ => ex_now ?_) (fun c => absurd (by omega) c)
    rw [beq_iff_eq]
    exact ⟨fun h => ⟨hv, fun j hj => hs j (by omega) hj, by omega, h⟩, fun h => h.2.2.2⟩
theorem chain_impl (l : List S76) (hl : l.length ≤ 1048576) : ∃ r, Ev (fun k => impl_IsValidChain.f k l) r ∧ (r = true ↔ VC l) := by
  refine ev_to (σ := Unit) (fun _ i k => impl_IsValidChain.l0 k l l (l.length : Int) (i : Int)) l.length (fun _ i => (∀ j, j < i → vat l j = true) ∧ ∀ j, j + 1 < i → step l j) (fun r => r = true ↔ VC l) ?_ ?_ () 0 (Nat.zero_le _) ⟨fun j hj => absurd hj (by omega), fun j hj => absurd hj (by omega)⟩
  · rintro _ i hi ⟨hv, hs⟩ ih
    have h1 : (i : Int) < (l.length : Int) := by omega
    have e0 := wrap_up hi (by omega)
    have ev := (version_both (rd_T76 l (i : Int)).f0 (rd_T76 l (i : Int)).f1 (rd_T76 l (i : Int)).f2 (rd_T76 l (i : Int)).f3 (rd_T76 l (i : Int)).f4).2
    have hf : ∀ {P : Prop}, ¬ P → ((false = true) ↔ P) := fun h => ⟨fun h' => (nomatch h'), fun h' => absurd h' h⟩
    have hva : vat l i = vok (rd_T76 l (i : Int)).f0 (rd_T76 l (i : Int)).f1 (rd_T76 l (i : Int)).f2 (rd_T76 l (i : Int)).f3 (rd_T76 l (i : Int)).f4 := rfl
    apply ex_succ
    simp only [impl_IsValidChain.l0]
    rw [e0]
    refine ex_ite (fun _ => ?_) (fun c => absurd h1 c)
    refine ex_ite (fun _ => ?_) (fun c => absurd (Int.natCast_nonneg i) c)
    refine ex_ite (fun _ => ?_) (fun c => absurd h1 c)
    refine ex_bindE ev ?_
    refine ex_ite (fun c1 => ?_) (fun c1 => ex_now (hf (fun h => c1 (by rw [← hva]; exact h.1 i hi))))
    have hv' : ∀ j, j < i + 1 → vat l j = true := fun j hj => if hh : j < i then hv j hh else by obtain rfl : j = i := (by omega); rw [hva]; exact c1
    refine ex_ite (fun c2 => ?_) (fun c2 => ih () ⟨hv', fun j hj => if hh : j + 1 < i then hs j hh else by omega⟩)
    have e1 : wrap64 ((i : Int) - 1) = ((i - 1 : Nat) : Int) := wrap_down (by omega) (by omega)
    rw [e1]
    refine ex_ite (fun _ => ?_) (fun c => absurd (Int.natCast_nonneg _) c)
    refine ex_ite (fun _ => ?_) (fun c => absurd (by omega) c)
    have hst : ∀ h : VC l, step l (i - 1) := fun h => h.2.1 (i - 1) (by omega)
    have hi1 : i - 1 + 1 = i := by omega
    refine ex_ite (fun c3 => ex_now (hf (fun h => by have := (hst h).1; rw [hi1] at this; omega))) (fun c3 => ?_)
    refine ex_ite (fun c4 => ex_now (hf (fun h => by have := (hst h).2; rw [hi1] at this; omega))) (fun c4 => ?_)
    exact ih () ⟨hv', fun j hj => if hh : j + 1 < i then hs j hh else by obtain rfl : j = i - 1 := (by omega); exact ⟨by rw [hi1]; omega, by rw [hi1]; omega⟩⟩
  · rintro _ ⟨hv, hs⟩
    have hf : ∀ {P : Prop}, ¬ P → ((false = true) ↔ P) := fun h => ⟨fun h' => (nomatch h'), fun h' => absurd h' h⟩
    apply ex_succ
    simp only [impl_IsValidChain.l0]
    refine ex_ite (fun c => absurd c (Int.lt_irrefl _)) (fun _ => ?_)
    refine ex_ite (fun c1 => ?_) (fun c1 => ex_now (hf (fun h => c1 (by have := h.2.2.1; omega))))
    have e1 : wrap64 ((l.length : Int) - 1) = ((l.length - 1 : Nat) : Int) := wrap_down (by omega) (by omega)
    rw [e1]
    refine ex_ite (fun _ => ?_) (fun c => absurd (Int.natCast_nonneg _) c)
    refine ex_ite (fun _ => ex_now ?_) (fun c => absurd (by omega) c)
    rw [beq_iff_eq]
    exact ⟨fun h => ⟨hv, fun j hj => hs j (by omega), by omega, h⟩, fun h => h.2.2.2⟩
theorem store_both (l : List (List S76)) (hl : l.length ≤ 1048576) (he : ∀ e ∈ l, e.length ≤ 1048576) : ∃ r, Ev (fun k => spec_IsValidStore.f k l) r ∧ Ev (fun k => impl_IsValidStore.f k l) r ∧ (r = true ↔ (∀ e ∈ l, VC e ∧ e.length ≤ 50) ∧ l.length = 6) := by
  have hf : ∀ {P : Prop}, ¬ P → ((false = true) ↔ P) := fun h => ⟨fun h' => (nomatch h'), fun h' => absurd h' h⟩
  have hS : ∃ r, Ev (fun k => spec_IsValidStore.f k l) r ∧ (r = true ↔ (∀ e ∈ l, VC e ∧ e.length ≤ 50) ∧ l.length = 6) := by
    refine ev_to (σ := Unit) (fun _ i k => spec_IsValidStore.l0 k (i : Int) l) l.length (fun _ i => ∀ j (hj : j < l.length), j < i → VC l[j] ∧ l[j].length ≤ 50) (fun r => r = true ↔ (∀ e ∈ l, VC e ∧ e.length ≤ 50) ∧ l.length = 6) ?_ ?_ () 0 (Nat.zero_le _) (fun j _ hj => absurd hj (by omega))
    · intro _ i hi hI ih
      have h1 : (i : Int) < (l.length : Int) := by omega
      have hrd : rd_L6 l (i : Int) = l[i] := by simp [rd_L6, hi]
      obtain ⟨r, er, hr⟩ := chain_spec l[i] (he _ (List.getElem_mem hi))
      apply ex_succ
      simp only [spec_IsValidStore.l0]
      rw [wrap_up hi (by omega), hrd]
      refine ex_ite (fun _ => ?_) (fun c => absurd h1 c)
      refine ex_ite (fun _ => ?_) (fun c => absurd (Int.natCast_nonneg i) c)
      refine ex_bindE er ?_
      refine ex_ite (fun c1 => ?_) (fun c1 => ex_now (hf (fun h => c1 (hr.2 (h.1 _ (List.getElem_mem hi)).1))))
      have hvc := hr.1 c1
      have hnext : l[i].length ≤ 50 → ∀ j (hj : j < l.length), j < i + 1 → VC l[j] ∧ l[j].length ≤ 50 := fun h50 j hj hji => if hh : j < i then hI j hj hh else by obtain rfl : j = i := (by omega); exact ⟨hvc, h50⟩
      have hbig : (l[i].length : Int) > 50 → ¬ ((∀ e ∈ l, VC e ∧ e.length ≤ 50) ∧ l.length = 6) := fun h h' => by have := (h'.1 _ (List.getElem_mem hi)).2; omega
      refine ex_ite (fun _ => ?_) (fun c => absurd (by have := hvc.2.2.1; omega) c)
      exact ex_ite (fun _ => ex_ite (fun c => ex_now (hf (hbig c))) (fun c => ih () (hnext (by omega)))) (fun _ => ex_ite (fun c => ex_now (hf (hbig c))) (fun c => ih () (hnext (by omega))))
    · intro _ hI
      apply ex_succ
      simp only [spec_IsValidStore.l0]
      refine ex_ite (fun c => absurd c (Int.lt_irrefl _)) (fun _ => ex_now ?_)
      rw [beq_iff_eq]
      refine ⟨fun h => ⟨fun e hm => ?_, by omega⟩, fun h => by omega⟩
      obtain ⟨j, hj, rfl⟩ := List.getElem_of_mem hm
      exact hI j hj hj
  have hI : ∃ r, Ev (fun k => impl_IsValidStore.f k l) r ∧ (r = true ↔ (∀ e ∈ l, VC e ∧ e.length ≤ 50) ∧ l.length = 6) := by
    unfold impl_IsValidStore.f
    refine ex_ite (fun c => ?_) (fun c => ex_now (hf (fun h => c (by omega))))
    have key : ∃ q, Ev (fun k => impl_Version_201.f k l) q ∧ ((decide (q ≥ 0) = false) ↔ (∀ e ∈ l, VC e ∧ e.length ≤ 50)) := by
      refine ev_to (σ := Unit) (fun _ i k => impl_Version_201.l0 k l (l.length : Int) (i : Int)) l.length (fun _ i => ∀ j (hj : j < l.length), j < i → VC l[j] ∧ l[j].length ≤ 50) (fun q => (decide (q ≥ 0) = false) ↔ (∀ e ∈ l, VC e ∧ e.length ≤ 50)) ?_ ?_ () 0 (Nat.zero_le _) (fun j _ hj => absurd hj (by omega))
      · intro _ i hi hI ih
        have h1 : (i : Int) < (l.length : Int) := by omega
        have hrd : rd_L6 l (i : Int) = l[i] := by simp [rd_L6, hi]
        obtain ⟨r, er, hr⟩ := chain_impl l[i] (he _ (List.getElem_mem hi))
        have e1 : ∃ t, Ev (fun k => impl_IsValidStore_1.f k l[i]) t ∧ (t = true ↔ ¬ (VC l[i] ∧ l[i].length ≤ 50)) := by
          unfold impl_IsValidStore_1.f
          refine ex_bindE er ?_
          refine ex_ite (fun c1 => ex_now ?_) (fun c1 => ex_now ⟨fun _ h => c1 (hr.2 h.1), fun _ => rfl⟩)
          rw [decide_eq_true_eq]
          exact ⟨fun h h' => by have := h'.2; omega, fun h => by
            by_cases q : l[i].length ≤ 50
            · exact absurd ⟨hr.1 c1, q⟩ h
            · omega⟩
        obtain ⟨t, et, htt⟩ := e1
        apply ex_succ
        simp only [impl_Version_201.l0]
        rw [wrap_up hi (by omega), hrd]
        refine ex_ite (fun _ => ?_) (fun c => absurd h1 c)
        refine ex_ite (fun _ => ?_) (fun c => absurd (Int.natCast_nonneg i) c)
        refine ex_ite (fun _ => ?_) (fun c => absurd h1 c)
        refine ex_bindE et ?_
        refine ex_ite (fun c1 => ex_now ?_) (fun c1 => ih () (fun j hj hji => if hh : j < i then hI j hj hh else by
          obtain rfl : j = i := by omega
          exact Classical.byContradiction (fun h => c1 (htt.2 h))))
        have hn := htt.1 c1
        have : decide ((i : Int) ≥ 0) = true := decide_eq_true (Int.natCast_nonneg i)
        rw [this]
        exact ⟨fun h => (nomatch h), fun h => absurd (h _ (List.getElem_mem hi)) hn⟩
      · intro _ hI
        apply ex_succ
        simp only [impl_Version_201.l0]
        refine ex_ite (fun c => absurd c (Int.lt_irrefl _)) (fun _ => ex_now ⟨fun _ e hm => ?_, fun _ => by decide⟩)
        obtain ⟨j, hj, rfl⟩ := List.getElem_of_mem hm
        exact hI j hj hj
    obtain ⟨q, eq, hq⟩ := key
    refine ex_bindE (a := decide (q ≥ 0)) (Ev.bind eq (Ev.now _)) (ex_now ?_)
    rw [Bool.not_eq_true']
    exact ⟨fun h => ⟨hq.1 h, by omega⟩, fun h => hq.2 h.1⟩
  obtain ⟨r, h1, h2⟩ := hS
  obtain ⟨r', h1', h2'⟩ := hI
  have : r = r' := by rw [Bool.eq_iff_iff]; exact h2.trans h2'.symm
  subst this
  exact ⟨r, h1, h1', h2⟩
theorem find_both (c : List S76) (n : Int) (hl : c.length ≤ 1048576) : ∃ r, Ev (fun k => spec_FindVersion.f k c n) r ∧ Ev (fun k => impl_FindVersion.f k c n) r ∧ (r = -1 ∨ (0 ≤ r ∧ r < (c.length : Int))) := by
  have h : ∃ r q, Ev (fun k => spec_FindVersion.l0 k c n ((0 : Nat) : Int)) r ∧ Ev (fun k => impl_Version_214.l0 k c (c.length : Int) ((0 : Nat) : Int) n) q ∧ (r = q ∧ (r = -1 ∨ (0 ≤ r ∧ r < (c.length : Int)))) := by
    refine ev_two (σ := Unit) (τ := Unit) (fun _ i k => spec_FindVersion.l0 k c n (i : Int)) (fun _ i k => impl_Version_214.l0 k c (c.length : Int) (i : Int) n) c.length (fun _ _ _ => True) (fun r q => r = q ∧ (r = -1 ∨ (0 ≤ r ∧ r < (c.length : Int)))) ?_ ?_ () () 0 (Nat.zero_le _) trivial
    · intro _ _ i hi _ ih
      have h1 : (i : Int) < (c.length : Int) := by omega
      have e0 := wrap_up hi (by omega)
      by_cases hc : (rd_T76 c i).f2 = n
      · refine ⟨(i : Int), (i : Int), Ev.succ ?_, Ev.succ ?_, rfl, .inr ⟨by omega, h1⟩⟩ <;> (simp only [spec_FindVersion.l0, impl_Version_214.l0, impl_FindVersion_1.f, h1, hc, beq_self_eq_true, Int.natCast_nonneg, if_true, Option.bind_some]; exact Ev.now _)
      · obtain ⟨r, q, hs, ht, hR⟩ := ih () () trivial
        have cb : ((rd_T76 c i).f2 == n) = false := by simpa using hc
        refine ⟨r, q, Ev.succ ?_, Ev.succ ?_, hR⟩ <;> (simp only [spec_FindVersion.l0, impl_Version_214.l0, impl_FindVersion_1.f, h1, hc, cb, e0, Int.natCast_nonneg, if_true, if_false, Option.bind_some, Bool.false_eq_true]; assumption)
    · intro _ _ _
      refine ⟨-1, -1, Ev.succ ?_, Ev.succ ?_, rfl, .inl rfl⟩ <;> (simp only [spec_FindVersion.l0, impl_Version_214.l0, Int.lt_irrefl, if_false]; exact Ev.now _)
  obtain ⟨r, q, h1, h2, rfl, hR⟩ := h
  refine ⟨r, h1, ?_, hR⟩
  unfold impl_FindVersion.f impl_Version_214.f
  exact Ev.bind h2 (Ev.now _)
theorem stamp_both (a0 a1 a2 a3 a4 a5 a6 : Int) (rs : List S165) (ws : List S133) (hr : rs.length ≤ 1048576) (hw : ws.length ≤ 1048576) : ∃ n, Ev (fun k => spec_CommittedStamp.f k a0 a1 a2 a3 a4 a5 a6 rs ws) n ∧ Ev (fun k => impl_CommittedStamp.f k a0 a1 a2 a3 a4 a5 a6 rs ws) n ∧ 0 ≤ n := by
  obtain ⟨b, s2, i2, hb⟩ := both_IsValidTransaction a0 a1 a2 a3 a4 a5 a6 rs ws hr hw
  refine ⟨if b = true then a6 else 0, ?_, ?_, ?_⟩
  · unfold spec_CommittedStamp.f
    refine Ev.bind s2 ?_
    cases b
    · simp only [Bool.false_eq_true, if_false]; exact Ev.now _
    · simp only [if_true]
      by_cases c2 : a2 = 2
      · simp only [if_pos c2]; exact Ev.now _
      · have : a6 = 0 := (hb rfl).1.resolve_left c2
        simp only [if_neg c2, this]; exact Ev.now _
  · unfold impl_CommittedStamp.f
    refine Ev.bind i2 ?_
    cases b
    · simp only [Bool.false_eq_true, if_false]; exact Ev.now _
    · simp only [if_true]; exact Ev.now _
  · cases b
    · simp
    · simpa using (hb rfl).2
theorem installed_loops (l : List (List S76)) (n : Int) (a0 a1 a2 a3 a4 a5 a6 : Int) (rs : List S165) (ws : List S133) (hn : 0 < n) (hv : Ev (fun k => spec_IsValidStore.f k l) true) (h6 : l.length = 6) (hl : ∀ e ∈ l, e.length ≤ 1048576) : ∃ r q, Ev (fun k => spec_InstalledVersions.l0 k [] n ((0 : Nat) : Int) l a0 a1 a2 a3 a4 a5 a6 rs ws) r ∧ Ev (fun k => impl_InstalledVersions.l0 k n [] ((0 : Nat) : Int) l a0 a1 a2 a3 a4 a5 a6 rs ws) q ∧ (r = q ∧ r.length ≤ 6) := by
  refine ev_two (σ := List S76) (τ := List S76) (fun s i k => spec_InstalledVersions.l0 k s n (i : Int) l a0 a1 a2 a3 a4 a5 a6 rs ws) (fun t i k => impl_InstalledVersions.l0 k n t (i : Int) l a0 a1 a2 a3 a4 a5 a6 rs ws) 6 (fun s t i => s = t ∧ s.length ≤ i) (fun r q => r = q ∧ r.length ≤ 6) ?_ ?_ [] [] 0 (by omega) ⟨rfl, by simp⟩
  · rintro s _ i hi ⟨rfl, hs⟩ ih
    have h1 : (i : Int) < 6 := by omega
    have h2 : (i : Int) < (l.length : Int) := by omega
    have hil : i < l.length := by omega
    have e0 : wrap64 ((i : Int) + 1) = ((i + 1 : Nat) : Int) := wrap_up (n := 6) hi (by omega)
    obtain ⟨c, hc⟩ : ∃ c, c = l[i] := ⟨_, rfl⟩
    have hrd : rd_L6 l (i : Int) = c := by rw [hc]; simp [rd_L6, hil]
    have hcl : c.length ≤ 1048576 := by rw [hc]; exact hl _ (List.getElem_mem hil)
    obtain ⟨r, es, ei, hr⟩ := find_both c n hcl
    have sj : ∀ q, Ev (fun k => spec_InstalledVersions.j1 k s n (i : Int) true l a0 a1 a2 a3 a4 a5 a6 rs ws) q → Ev (fun k => spec_InstalledVersions.l0 k s n (i : Int) l a0 a1 a2 a3 a4 a5 a6 rs ws) q := by
      intro q hq
      apply Ev.succ
      simp only [spec_InstalledVersions.l0, h2, hn, gt_iff_lt, if_true]
      exact Ev.bind hv hq
    rcases hr with rfl | ⟨hr0, hr1⟩
    · obtain ⟨p, q, hp, hq, hR⟩ := ih s s ⟨rfl, by omega⟩
      have hif : Ev (fun k => impl_Store_find.f k l (i : Int) n) (-1) := by
        unfold impl_Store_find.f
        simp only [h2, hrd, Int.natCast_nonneg, if_true]
        refine Ev.bind ei ?_
        simp only [show ((-1 : Int) < 0) by decide, if_true]; exact Ev.now _
      refine ⟨p, q, sj p (Ev.succ ?_), Ev.succ ?_, hR⟩
      · simp only [spec_InstalledVersions.j1, h2, hrd, Int.natCast_nonneg, if_true, e0]
        refine Ev.bind es ?_
        simp only [show ¬ ((-1 : Int) ≥ 0) by decide, if_false]; exact hp
      · simp only [impl_InstalledVersions.l0, h1, if_true, e0]
        refine Ev.bind hif ?_
        simp only [if_true]; exact hq
    · have hne : ¬ r = -1 := by omega
      have hge : r ≥ 0 := hr0
      have hn0 : ¬ r < 0 := by omega
      have hif : Ev (fun k => impl_Store_find.f k l (i : Int) n) r := by
        unfold impl_Store_find.f
        simp only [h2, hrd, Int.natCast_nonneg, if_true]
        refine Ev.bind ei ?_
        simp only [hn0, hr0, hr1, if_true, if_false]; exact Ev.now _
      by_cases ha : (rd_T76 c r).f0 = a0
      · have hsl : s.length < 3518437208883 := by omega
        obtain ⟨p, q, hp, hq, hR⟩ := ih (s ++ [(⟨(rd_T76 c r).f0, (rd_T76 c r).f1, (rd_T76 c r).f2, (rd_T76 c r).f3, (rd_T76 c r).f4⟩ : S76)]) (s ++ [(⟨(rd_T76 c r).f0, (rd_T76 c r).f1, (rd_T76 c r).f2, (rd_T76 c r).f3, (rd_T76 c r).f4⟩ : S76)]) ⟨rfl, by simp; omega⟩
        refine ⟨p, q, sj p (Ev.succ ?_), Ev.succ ?_, hR⟩
        · simp only [spec_InstalledVersions.j1, h2, hrd, Int.natCast_nonneg, if_true, e0]
          refine Ev.bind es ?_
          simp only [hge, hr0, hr1, ha, hsl, if_true]
          rw [ha] at hp; exact hp
        · simp only [impl_InstalledVersions.l0, h1, if_true, e0]
          refine Ev.bind hif ?_
          simp only [hne, hrd, ha, hsl, if_true, if_false]
          rw [ha] at hq; exact hq
      · obtain ⟨p, q, hp, hq, hR⟩ := ih s s ⟨rfl, by omega⟩
        refine ⟨p, q, sj p (Ev.succ ?_), Ev.succ ?_, hR⟩
        · simp only [spec_InstalledVersions.j1, h2, hrd, Int.natCast_nonneg, if_true, e0]
          refine Ev.bind es ?_
          simp only [hge, hr0, hr1, ha, if_true, if_false]; exact hp
        · simp only [impl_InstalledVersions.l0, h1, if_true, e0]
          refine Ev.bind hif ?_
          simp only [hne, hrd, ha, if_false]; exact hq
  · rintro s _ ⟨rfl, hs⟩
    refine ⟨s, s, Ev.succ ?_, Ev.succ ?_, rfl, by omega⟩
    · have h2 : ¬ ((6 : Nat) : Int) < (l.length : Int) := by omega
      simp only [spec_InstalledVersions.l0, h2, if_false]
      exact Ev.succ (by simp only [spec_InstalledVersions.j1, Bool.false_eq_true, if_false]; exact Ev.now _)
    · have h1 : ¬ ((6 : Nat) : Int) < 6 := by omega
      simp only [impl_InstalledVersions.l0, h1, if_false]; exact Ev.now _
theorem both_Installed (l : List (List S76)) (a0 a1 a2 a3 a4 a5 a6 : Int) (rs : List S165) (ws : List S133) (hl : l.length ≤ 1048576 ∧ ∀ e ∈ l, e.length ≤ 1048576) (hr : rs.length ≤ 1048576) (hw : ws.length ≤ 1048576) : ∃ r, Ev (fun k => spec_InstalledVersions.f k l a0 a1 a2 a3 a4 a5 a6 rs ws) r ∧ Ev (fun k => impl_InstalledVersions.f k l a0 a1 a2 a3 a4 a5 a6 rs ws) r ∧ r.length ≤ 6 := by
  obtain ⟨n, sn, inn, hn⟩ := stamp_both a0 a1 a2 a3 a4 a5 a6 rs ws hr hw
  obtain ⟨v, s1, i1, hv⟩ := store_both l hl.1 hl.2
  have jF : Ev (fun k => spec_InstalledVersions.j1 k [] n 0 false l a0 a1 a2 a3 a4 a5 a6 rs ws) [] := Ev.succ (by simp only [spec_InstalledVersions.j1, Bool.false_eq_true, if_false]; exact Ev.now _)
  have iT : Ev (fun k => impl_InstalledVersions.j0 k n true l a0 a1 a2 a3 a4 a5 a6 rs ws) [] := Ev.succ (by simp only [impl_InstalledVersions.j0, if_true]; exact Ev.now _)
  by_cases h0 : n = 0
  · refine ⟨[], ?_, ?_, by simp⟩
    · unfold spec_InstalledVersions.f
      refine Ev.bind sn (Ev.succ ?_)
      have hz : ¬ n > 0 := by omega
      simp only [spec_InstalledVersions.l0, hz, if_false, ite_self]; exact jF
    · unfold impl_InstalledVersions.f
      refine Ev.bind inn ?_
      simp only [if_pos h0]; exact iT
  have hp : n > 0 := by omega
  cases v
  · refine ⟨[], ?_, ?_, by simp⟩
    · unfold spec_InstalledVersions.f
      refine Ev.bind sn (Ev.succ ?_)
      simp only [spec_InstalledVersions.l0, hp, if_true]
      by_cases hx : (0 : Int) < (l.length : Int)
      · simp only [if_pos hx]; exact Ev.bind s1 jF
      · simp only [if_neg hx]; exact jF
    · unfold impl_InstalledVersions.f
      refine Ev.bind inn ?_
      simp only [if_neg h0]
      exact Ev.bind i1 (by simp only [Bool.not_false]; exact iT)
  obtain ⟨_, h6⟩ := hv.1 rfl
  obtain ⟨r, q, hs, hi, rfl, hrl⟩ := installed_loops l n a0 a1 a2 a3 a4 a5 a6 rs ws hp s1 h6 hl.2
  refine ⟨r, ?_, ?_, hrl⟩
  · unfold spec_InstalledVersions.f
    exact Ev.bind sn hs
  · unfold impl_InstalledVersions.f
    refine Ev.bind inn ?_
    simp only [if_neg h0]
    refine Ev.bind i1 ?_
    simp only [Bool.not_true]
    exact Ev.succ (by simp only [impl_InstalledVersions.j0, Bool.false_eq_true, if_false]; exact hi)
theorem evb_markVersionS (l : List S76) (b : Int) (hb0 : 0 ≤ b) (hb : b ≤ 9007199254740992) (hl : l.length ≤ 4194304) : Ev (fun k => laws_markVersionS.f k l b) (b + 5 * (l.length : Int), markL mkVersion 5 l.length b) := by
  have h : Ev (fun k => laws_markVersionS.l0 k l b ((0 : Nat) : Int)) (b + 5 * (l.length : Int), markL mkVersion 5 l.length b) := by
    refine ev_up (σ := List S76 × Int) (fun s i k => laws_markVersionS.l0 k s.1 s.2 (i : Int)) l.length (fun s i => Filled (markL mkVersion 5 l.length b) s.1 i ∧ s.2 = b + 5 * (i : Int)) (fun _ _ => (b + 5 * (l.length : Int), markL mkVersion 5 l.length b)) ?_ ?_ (l, b) 0 (Nat.zero_le _) ⟨Filled.start _ _ (by simp [markL_length]), by simp⟩
    · rintro ⟨ys, a⟩ i hi ⟨hI, ha⟩ ih
      apply Ev.succ
      dsimp only at ha hI ⊢
      have hly : ys.length = l.length := by have := hI.1; simpa [markL_length] using this
      have h1 : (i : Int) < (ys.length : Int) := by omega
      have hiy : i < ys.length := by omega
      have w0 : wrap64 (a + 1) = a + 1 := wrap_in (by omega) (by omega)
      have w1 : wrap64 (a + 2) = a + 2 := wrap_in (by omega) (by omega)
      have w2 : wrap64 (a + 3) = a + 3 := wrap_in (by omega) (by omega)
      have w3 : wrap64 (a + 4) = a + 4 := wrap_in (by omega) (by omega)
      have w4 : wrap64 (a + 5) = a + 5 := wrap_in (by omega) (by omega)
      have hr := ih (ys.set i (mkVersion a), a + 5) ⟨hI.step (by simpa [markL_length] using hi) (by rw [markL_get, ha]; rfl), by dsimp only; omega⟩
      dsimp only at hr
      simp only [laws_markVersionS.l0, Option.bind_some, h1, Int.natCast_nonneg, if_true, Int.toNat_natCast, wrap_up hi (by omega), w0, w1, w2, w3, w4, show a + 1 + 1 = a + 2 from by omega, show a + 2 + 1 = a + 3 from by omega, show a + 3 + 1 = a + 4 from by omega, show a + 4 + 1 = a + 5 from by omega]
      simpa [mkVersion, rd_T76, hiy] using hr
    · rintro ⟨ys, a⟩ ⟨hI, ha⟩
      apply Ev.succ
      dsimp only at ha hI ⊢
      have hly : ys.length = l.length := by have := hI.1; simpa [markL_length] using this
      have h1 : ¬ ((l.length : Int) < (ys.length : Int)) := by omega
      simp only [laws_markVersionS.l0, h1, if_false]
      have hd : ys = markL mkVersion 5 l.length b := Filled.done (by rw [markL_length]; exact hI)
      exact Ev.some (by rw [ha, hd])
  exact h
theorem ev_markVersionSS (l : List (List S76)) (hl : l.length ≤ 1048576) (he : ∀ e ∈ l, e.length ≤ 1048576) : ∃ r, Ev (fun k => laws_markVersionSS.f k l 1) r ∧ (1 ≤ r ∧ r ≤ 1 + 5242880 * (l.length : Int)) := by
  show ∃ r, Ev (fun k => laws_markVersionSS.l0 k l 1 ((0 : Nat) : Int)) r ∧ (1 ≤ r ∧ r ≤ 1 + 5242880 * (l.length : Int))
  refine ev_to (σ := List (List S76) × Int) (fun s i k => laws_markVersionSS.l0 k s.1 s.2 (i : Int)) l.length (fun s i => s.1.length = l.length ∧ (∀ e ∈ s.1, e.length ≤ 1048576) ∧ 1 ≤ s.2 ∧ s.2 ≤ 1 + 5242880 * (i : Int)) (fun r => 1 ≤ r ∧ r ≤ 1 + 5242880 * (l.length : Int)) ?_ ?_ (l, 1) 0 (Nat.zero_le _) ⟨rfl, he, by dsimp only; omega, by dsimp only; omega⟩
  · rintro ⟨xs, a⟩ i hi ⟨hlen, hle, ha0, ha1⟩ ih
    dsimp only at hlen hle ha0 ha1 ⊢
    have hix : i < xs.length := by omega
    have h1 : (i : Int) < (xs.length : Int) := by omega
    have hg : xs.getD i [] = xs[i] := getD_lt xs i [] hix
    have hel := hle _ (List.getElem_mem hix)
    have em := evb_markVersionS xs[i] a (by omega) (by omega) (by omega)
    obtain ⟨r, h, hR⟩ := ih (xs.set i (markL mkVersion 5 xs[i].length a), a + 5 * (xs[i].length : Int)) ⟨by dsimp only; rw [List.length_set]; exact hlen, fun e hm => by
      rcases List.mem_or_eq_of_mem_set hm with hm | rfl
      · exact hle e hm
      · rw [markL_length]; exact hel, by dsimp only; omega, by dsimp only; omega⟩
    refine ⟨r, Ev.succ ?_, hR⟩
    simp only [laws_markVersionSS.l0, h1, Int.natCast_nonneg, if_true, Int.toNat_natCast, hg, wrap_up hix (by omega)]
    exact Ev.bind em h
  · rintro ⟨xs, a⟩ ⟨hlen, hle, ha0, ha1⟩
    dsimp only at hlen hle ha0 ha1 ⊢
    refine ⟨a, Ev.succ ?_, ha0, ha1⟩
    have h1 : ¬ (l.length : Int) < (xs.length : Int) := by omega
    simp only [laws_markVersionSS.l0, h1, if_false]; exact Ev.now _
theorem evb_markReadMarkS (l : List S165) (b : Int) (hb0 : 0 ≤ b) (hb : b ≤ 9007199254740992) (hl : l.length ≤ 4194304) : Ev (fun k => laws_markReadMarkS.f k l b) (b + 2 * (l.length : Int), markL mkReadMark 2 l.length b) := by
  have h : Ev (fun k => laws_markReadMarkS.l0 k l b ((0 : Nat) : Int)) (b + 2 * (l.length : Int), markL mkReadMark 2 l.length b) := by
    refine ev_up (σ := List S165 × Int) (fun s i k => laws_markReadMarkS.l0 k s.1 s.2 (i : Int)) l.length (fun s i => Filled (markL mkReadMark 2 l.length b) s.1 i ∧ s.2 = b + 2 * (i : Int)) (fun _ _ => (b + 2 * (l.length : Int), markL mkReadMark 2 l.length b)) ?_ ?_ (l, b) 0 (Nat.zero_le _) ⟨Filled.start _ _ (by simp [markL_length]), by simp⟩
    · rintro ⟨ys, a⟩ i hi ⟨hI, ha⟩ ih
      apply Ev.succ
      dsimp only at ha hI ⊢
      have hly : ys.length = l.length := by have := hI.1; simpa [markL_length] using this
      have h1 : (i : Int) < (ys.length : Int) := by omega
      have hiy : i < ys.length := by omega
      have w0 : wrap64 (a + 1) = a + 1 := wrap_in (by omega) (by omega)
      have w1 : wrap64 (a + 2) = a + 2 := wrap_in (by omega) (by omega)
      have hr := ih (ys.set i (mkReadMark a), a + 2) ⟨hI.step (by simpa [markL_length] using hi) (by rw [markL_get, ha]; rfl), by dsimp only; omega⟩
      dsimp only at hr
      simp only [laws_markReadMarkS.l0, Option.bind_some, h1, Int.natCast_nonneg, if_true, Int.toNat_natCast, wrap_up hi (by omega), w0, w1, show a + 1 + 1 = a + 2 from by omega]
      simpa [mkReadMark, rd_T165, hiy] using hr
    · rintro ⟨ys, a⟩ ⟨hI, ha⟩
      apply Ev.succ
      dsimp only at ha hI ⊢
      have hly : ys.length = l.length := by have := hI.1; simpa [markL_length] using this
      have h1 : ¬ ((l.length : Int) < (ys.length : Int)) := by omega
      simp only [laws_markReadMarkS.l0, h1, if_false]
      have hd : ys = markL mkReadMark 2 l.length b := Filled.done (by rw [markL_length]; exact hI)
      exact Ev.some (by rw [ha, hd])
  exact h
theorem evb_markWriteS (l : List S133) (b : Int) (hb0 : 0 ≤ b) (hb : b ≤ 9007199254740992) (hl : l.length ≤ 4194304) : Ev (fun k => laws_markWriteS.f k l b) (b + 2 * (l.length : Int), markL mkWrite 2 l.length b) := by
  have h : Ev (fun k => laws_markWriteS.l0 k l b ((0 : Nat) : Int)) (b + 2 * (l.length : Int), markL mkWrite 2 l.length b) := by
    refine ev_up (σ := List S133 × Int) (fun s i k => laws_markWriteS.l0 k s.1 s.2 (i : Int)) l.length (fun s i => Filled (markL mkWrite 2 l.length b) s.1 i ∧ s.2 = b + 2 * (i : Int)) (fun _ _ => (b + 2 * (l.length : Int), markL mkWrite 2 l.length b)) ?_ ?_ (l, b) 0 (Nat.zero_le _) ⟨Filled.start _ _ (by simp [markL_length]), by simp⟩
    · rintro ⟨ys, a⟩ i hi ⟨hI, ha⟩ ih
      apply Ev.succ
      dsimp only at ha hI ⊢
      have hly : ys.length = l.length := by have := hI.1; simpa [markL_length] using this
      have h1 : (i : Int) < (ys.length : Int) := by omega
      have hiy : i < ys.length := by omega
      have w0 : wrap64 (a + 1) = a + 1 := wrap_in (by omega) (by omega)
      have w1 : wrap64 (a + 2) = a + 2 := wrap_in (by omega) (by omega)
      have hr := ih (ys.set i (mkWrite a), a + 2) ⟨hI.step (by simpa [markL_length] using hi) (by rw [markL_get, ha]; rfl), by dsimp only; omega⟩
      dsimp only at hr
      simp only [laws_markWriteS.l0, Option.bind_some, h1, Int.natCast_nonneg, if_true, Int.toNat_natCast, wrap_up hi (by omega), w0, w1, show a + 1 + 1 = a + 2 from by omega]
      simpa [mkWrite, rd_T133, hiy] using hr
    · rintro ⟨ys, a⟩ ⟨hI, ha⟩
      apply Ev.succ
      dsimp only at ha hI ⊢
      have hly : ys.length = l.length := by have := hI.1; simpa [markL_length] using this
      have h1 : ¬ ((l.length : Int) < (ys.length : Int)) := by omega
      simp only [laws_markWriteS.l0, h1, if_false]
      have hd : ys = markL mkWrite 2 l.length b := Filled.done (by rw [markL_length]; exact hI)
      exact Ev.some (by rw [ha, hd])
  exact h
theorem ev_markTx (a0 a1 a2 a3 a4 a5 a6 : Int) (rs : List S165) (ws : List S133) (b : Int) (hb0 : 0 ≤ b) (hb : b ≤ 9007199200000000) (hr : rs.length ≤ 1048576) (hw : ws.length ≤ 1048576) : ∃ r, Ev (fun k => laws_markTransaction.f k a0 a1 a2 a3 a4 a5 a6 rs ws b) r ∧ 0 ≤ r.1 := by
  refine ⟨(b + 2 * (rs.length : Int) + 2 * (ws.length : Int), markL mkReadMark 2 rs.length b, markL mkWrite 2 ws.length (b + 2 * (rs.length : Int))), ?_, by dsimp only; omega⟩
  unfold laws_markTransaction.f
  refine Ev.bind (evb_markReadMarkS rs b hb0 (by omega) (by omega)) ?_
  exact Ev.bind (evb_markWriteS ws (b + 2 * (rs.length : Int)) (by omega) (by omega) (by omega)) (Ev.now _)
theorem sz_st (vs : List (List S207)) (a : Int) (h0 : 0 ≤ a) (h1 : a ≤ 1048576) (hv : vs.length ≤ 9223372036854775807) (hv2 : ∀ e ∈ vs, e.length ≤ 9223372036854775807) : ∃ r, Ev (fun k => laws_szStore.f k vs a) r ∧ r ≤ a ∧ (0 ≤ r → vs.length ≤ 1048576 ∧ ∀ e ∈ vs, e.length ≤ 1048576) := by
  obtain ⟨r0, e0, u0, hf⟩ := sz_VersionSS vs a h0 h1 hv hv2
  unfold laws_szStore.f
  by_cases c0 : r0 < 0
  · exact ⟨-1, Ev.bind e0 (by simp only [c0, if_true]; exact Ev.now _), by omega, fun h => absurd h (by omega)⟩
  · exact ⟨r0, Ev.bind e0 (by simp only [c0, if_false]; exact Ev.now _), u0, fun h => hf h⟩
theorem sz_tx (a0 a1 a2 a3 a4 a5 a6 : Int) (rs : List S189) (ws : List S191) (a : Int) (h0 : 0 ≤ a) (h1 : a ≤ 1048576) (hr : rs.length ≤ 9223372036854775807) (hw : ws.length ≤ 9223372036854775807) : ∃ r, Ev (fun _ => laws_szTransaction.f a0 a1 a2 a3 a4 a5 a6 rs ws a) r ∧ r ≤ a ∧ (0 ≤ r → rs.length ≤ 1048576 ∧ ws.length ≤ 1048576) := by
  unfold laws_szTransaction.f
  obtain ⟨r0, e0, u0, f0⟩ := szx_ReadMark rs a h0 h1 hr
  by_cases c0 : r0 < 0
  · exact ⟨-1, Ev.bind e0 (by simp only [c0, if_true]; exact Ev.now _), by omega, fun h => absurd h (by omega)⟩
  obtain ⟨r1, e1, u1, f1⟩ := szx_Write ws r0 (by omega) (by omega) hw
  by_cases c1 : r1 < 0
  · exact ⟨-1, Ev.bind e0 (by simp only [c0, if_false]; exact Ev.bind e1 (by simp only [c1, if_true]; exact Ev.now _)), by omega, fun h => absurd h (by omega)⟩
  exact ⟨r1, Ev.bind e0 (by simp only [c0, if_false]; exact Ev.bind e1 (by simp only [c1, if_false]; exact Ev.now _)), by omega, fun _ => ⟨f0 (by omega), f1 (by omega)⟩⟩
theorem to_st (vs : List (List S207)) (h : vs.length ≤ 1048576 ∧ ∀ e ∈ vs, e.length ≤ 1048576) : Ev (fun k => laws_toStore.f k vs) (vs.map (List.map cvVersion)) := by
  unfold laws_toStore.f
  exact Ev.bind (ev_toVersionSS vs h) (Ev.now _)
theorem st_len {vs : List (List S207)} (h : vs.length ≤ 1048576 ∧ ∀ e ∈ vs, e.length ≤ 1048576) : (vs.map (List.map cvVersion)).length ≤ 1048576 ∧ ∀ e ∈ vs.map (List.map cvVersion), e.length ≤ 1048576 := ⟨by simpa using h.1, fun e he => by
  obtain ⟨x, hx, rfl⟩ := List.mem_map.1 he
  simpa using h.2 x hx⟩
theorem eq_st (l : List (List S76)) (h : l.length ≤ 1048576 ∧ ∀ e ∈ l, e.length ≤ 1048576) : Ev (fun k => laws_eqStore.f k l l) true := by
  unfold laws_eqStore.f
  refine Ev.bind (ev_eqVersionSS _ h) ?_
  simp only [if_true]; exact Ev.now _
theorem to_tx (a0 a1 a2 a3 a4 a5 a6 : Int) (rs : List S189) (ws : List S191) (hr : rs.length ≤ 1048576) (hw : ws.length ≤ 1048576) : Ev (fun k => laws_toTransaction.f k a0 a1 a2 a3 a4 a5 a6 rs ws) (a0, a1, a2, a3, a4, a5, a6, rs.map cvReadMark, ws.map cvWrite) := by
  unfold laws_toTransaction.f
  exact Ev.bind (ev_toReadMarkS rs hr) (Ev.bind (ev_toWriteS ws hw) (Ev.now _))
theorem eq_tx (a0 a1 a2 a3 a4 a5 a6 : Int) (rs : List S165) (ws : List S133) (hr : rs.length ≤ 1048576) (hw : ws.length ≤ 1048576) : Ev (fun k => laws_eqTransaction.f k a0 a1 a2 a3 a4 a5 a6 rs ws a0 a1 a2 a3 a4 a5 a6 rs ws) true := by
  unfold laws_eqTransaction.f
  simp only [if_true]
  exact Ev.bind (ev_eqReadMarkS _ (by omega)) (by simp only [if_true]; exact Ev.bind (ev_eqWriteS _ (by omega)) (by simp only [if_true]; exact Ev.now _))
theorem FnExactInstalledVersions : ∀ (x0_0 : List (List (S207))) (x1_0 : Int) (x1_1 : Int) (x1_2 : Int) (x1_3 : Int) (x1_4 : Int) (x1_5 : Int) (x1_6 : Int) (x1_7 : List (S189)) (x1_8 : List (S191)), (okRow (okRow PFnExactInstalledVersions.g207)) x0_0 → (okInt .i64) x1_0 → (okInt .i64) x1_1 → (okInt .i64) x1_2 → (okInt .i64) x1_3 → (okInt .i64) x1_4 → (okInt .i64) x1_5 → (okInt .i64) x1_6 → (okRow PFnExactInstalledVersions.g189) x1_7 → (okRow PFnExactInstalledVersions.g191) x1_8 → ∃ k, laws_FnExactInstalledVersions.f k x0_0 x1_0 x1_1 x1_2 x1_3 x1_4 x1_5 x1_6 x1_7 x1_8 = some true := by
  intro vs a0 a1 a2 a3 a4 a5 a6 rs ws hv _ _ _ _ _ _ _ hr hw
  apply Ev.rounds
  unfold laws_FnExactInstalledVersions.f
  obtain ⟨r0, e0, u0, f0⟩ := sz_st vs 1048576 (by omega) (by omega) (by have := hv.1; simp only [maxLen] at this; omega) (fun x hx => by have := (hv.2 x hx).1; simp only [maxLen] at this; omega)
  refine Ev.bind e0 ?_
  by_cases c0 : r0 < 0
  · simp only [c0, if_true]; exact Ev.now _
  have hs := f0 (by omega)
  simp only [c0, if_false]
  obtain ⟨r1, e1, u1, f1⟩ := sz_tx a0 a1 a2 a3 a4 a5 a6 rs ws r0 (by omega) (by omega) (by have := hr.1; simp only [maxLen] at this; omega) (by have := hw.1; simp only [maxLen] at this; omega)
  refine Ev.bind e1 ?_
  by_cases c1 : r1 < 0
  · simp only [c1, if_true]; exact Ev.now _
  obtain ⟨hrl, hwl⟩ := f1 (by omega)
  simp only [c1, if_false]
  have hto := to_st vs hs
  have htt := to_tx a0 a1 a2 a3 a4 a5 a6 rs ws hrl hwl
  have hrl' : (rs.map cvReadMark).length ≤ 1048576 := by simpa using hrl
  have hwl' : (ws.map cvWrite).length ≤ 1048576 := by simpa using hwl
  obtain ⟨r, s1, i1, hrr⟩ := both_Installed (vs.map (List.map cvVersion)) a0 a1 a2 a3 a4 a5 a6 (rs.map cvReadMark) (ws.map cvWrite) (st_len hs) hrl' hwl'
  refine Ev.bind hto (Ev.bind htt (Ev.bind s1 (Ev.bind hto (Ev.bind htt (Ev.bind i1 (Ev.bind (ev_eqVersionS r (by omega)) ?_))))))
  simp only [if_true]
  refine Ev.bind hto (Ev.bind (eq_st _ (st_len hs)) ?_)
  simp only [if_true]
  refine Ev.bind htt (Ev.bind (eq_tx a0 a1 a2 a3 a4 a5 a6 (rs.map cvReadMark) (ws.map cvWrite) hrl' hwl') ?_)
  simp only [if_true]
  obtain ⟨m, em, hm0, hm1⟩ := ev_markVersionSS _ (st_len hs).1 (st_len hs).2
  have em' : Ev (fun k => laws_markStore.f k (vs.map (List.map cvVersion)) 1) m := em
  have hll := (st_len hs).1
  refine Ev.bind em' ?_
  obtain ⟨x, ex, hx0⟩ := ev_markTx a0 a1 a2 a3 a4 a5 a6 (rs.map cvReadMark) (ws.map cvWrite) m (by omega) (by omega) hrl' hwl'
  refine Ev.bind ex ?_
  have hx : ¬ (x.1 < 0) := by omega
  simp only [hx, if_false]
  refine Ev.bind (ev_eqVersionS r (by omega)) ?_
  simp only [Bool.not_true]
  apply Ev.succ
  simp only [laws_FnExactInstalledVersions.j0, Bool.false_eq_true, if_false]
  refine Ev.bind (ev_markVersionS r (by omega)) (Ev.bind (ev_heldVersionS _ (by omega)) ?_)
  have hy : ¬ ((1 : Int) + 5 * (r.length : Int) < 0) := by omega
  simp only [hy, if_false, if_true]
  refine Ev.bind hto (Ev.bind htt (Ev.bind i1 (Ev.bind (ev_eqVersionS r (by omega)) ?_)))
  simp only [if_true]
  refine Ev.bind (ev_heldVersionS _ (by omega)) ?_
  simp only [hy, if_false, if_true]
  exact Ev.some rfl

end Go.Proofs.Ytakpkmlbklahhaa.Pure
