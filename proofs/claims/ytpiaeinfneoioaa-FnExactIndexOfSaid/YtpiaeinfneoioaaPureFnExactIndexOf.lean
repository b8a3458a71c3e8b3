/- The plain statement of FnExactIndexOf: both functions give a node for each key with the stamp of its last change, and marks in the result are held. Condition: the rows' lengths are at most maxLen. -/
import Derived.Test.YtpiaeinfneoioaaGoodFnExactIndexOf
import Derived.Test.YtpiaeinfneoioaaPlainV
namespace Go.Proofs.Ytpiaeinfneoioaa.Pure
open Go.RowKit Go.Proofs.Ytpiaeinfneoioaa.PFnExactIndexOf Go.Proofs.YtpiaeinfneoioaaW.PrintWords Go.Proofs.YtpiaeinfneoioaaW.PrintLast Go.Proofs.Ytpiaeinfneoioaa.OpenK Go.Proofs.Ytpiaeinfneoioaa.Plain
set_option linter.unusedVariables false
set_option linter.unusedSimpArgs false

theorem sz_VersionS (l : List S236) (a : Int) (h0 : 0 ≤ a) (h1 : a ≤ 1048576) (hl : l.length ≤ 9223372036854775807) : laws_szVersionS.f l a = some (if a < l.length then -1 else a - l.length) := by
  unfold laws_szVersionS.f
  rw [wrap_in (by omega) (by omega)]
  by_cases h : a < l.length
  · rw [if_pos (by omega), if_pos h]
  · rw [if_neg (by omega), if_neg h]

theorem szx_Version (l : List S236) (a : Int) (h0 : 0 ≤ a) (h1 : a ≤ 1048576) (hl : l.length ≤ 9223372036854775807) : ∃ r, Ev (fun _ => laws_szVersionS.f l a) r ∧ r ≤ a ∧ (0 ≤ r → l.length ≤ 1048576) := by
  rw [sz_VersionS l a h0 h1 hl]
  refine ⟨_, Ev.now _, ?_, ?_⟩ <;> split <;> omega

def cvVersion (x : S236) : S160 := ⟨x.f0, x.f1, x.f2, x.f3, x.f4⟩
theorem ev_toVersionS (l : List S236) (hl : l.length ≤ 1048576) : Ev (fun k => laws_toVersionS.f k l) (l.map cvVersion) := by
  have h : Ev (fun k => laws_toVersionS.l0 k l (List.replicate l.length z160) ((0 : Nat) : Int)) (l.map cvVersion) := by
    refine ev_up (σ := List S160) (fun ys i k => laws_toVersionS.l0 k l ys (i : Int)) l.length (fun ys i => Filled (l.map cvVersion) ys i) (fun _ _ => l.map cvVersion) ?_ ?_ (List.replicate l.length z160) 0 (Nat.zero_le _) (Filled.start _ _ (by simp))
    · intro ys i hi hI ih
      apply Ev.succ
      have h1 : (i : Int) < (l.length : Int) := by omega
      have h2 : (i : Int) < (ys.length : Int) := by have := hI.1; simp at this; omega
      simp only [laws_toVersionS.l0, laws_toVersion.f, Option.bind_some, h1, h2, Int.natCast_nonneg, if_true, Int.toNat_natCast, wrap_up hi (by omega)]
      exact ih _ (hI.step (by simpa using hi) (by simp [cvVersion, rd_T236, hi]))
    · intro ys hI
      apply Ev.succ
      simp only [laws_toVersionS.l0, Int.lt_irrefl, if_false]
      exact Ev.some (Filled.done (by simpa using hI))
  unfold laws_toVersionS.f
  have h3 : ((l.length : Int) : Int).toNat ≤ 7036874417766 := by omega
  simp only [Int.natCast_nonneg, if_true, h3]
  simpa using h

theorem ev_eqIndexNodeS (l : List S77) (hl : l.length ≤ 9223372036854775807) : Ev (fun k => laws_eqIndexNodeS.f k l l) true := by
  have h : Ev (fun k => laws_eqIndexNodeS.l0 k l l ((0 : Nat) : Int)) true := by
    refine ev_up (σ := Unit) (fun _ i k => laws_eqIndexNodeS.l0 k l l (i : Int)) l.length (fun _ _ => True) (fun _ _ => true) ?_ ?_ () 0 (Nat.zero_le _) trivial
    · intro ys i hi hI ih
      apply Ev.succ
      have h1 : (i : Int) < (l.length : Int) := by omega
      simp only [laws_eqIndexNodeS.l0, laws_eqIndexNode.f, Option.bind_some, h1, Int.natCast_nonneg, if_true, wrap_up hi hl]
      exact ih () trivial
    · intro ys hI
      apply Ev.succ
      simp only [laws_eqIndexNodeS.l0, Int.lt_irrefl, if_false]
      exact Ev.now _
  unfold laws_eqIndexNodeS.f
  simp only [if_true]
  exact h

theorem ev_eqVersionS (l : List S160) (hl : l.length ≤ 9223372036854775807) : Ev (fun k => laws_eqVersionS.f k l l) true := by
  have h : Ev (fun k => laws_eqVersionS.l0 k l l ((0 : Nat) : Int)) true := by
    refine ev_up (σ := Unit) (fun _ i k => laws_eqVersionS.l0 k l l (i : Int)) l.length (fun _ _ => True) (fun _ _ => true) ?_ ?_ () 0 (Nat.zero_le _) trivial
    · intro ys i hi hI ih
      apply Ev.succ
      have h1 : (i : Int) < (l.length : Int) := by omega
      simp only [laws_eqVersionS.l0, laws_eqVersion.f, Option.bind_some, h1, Int.natCast_nonneg, if_true, wrap_up hi hl]
      exact ih () trivial
    · intro ys hI
      apply Ev.succ
      simp only [laws_eqVersionS.l0, Int.lt_irrefl, if_false]
      exact Ev.now _
  unfold laws_eqVersionS.f
  simp only [if_true]
  exact h

theorem sz_VersionSS (l : List (List S236)) (a : Int) (h0 : 0 ≤ a) (h1 : a ≤ 1048576) (hl : l.length ≤ 9223372036854775807) (hg : ∀ e ∈ l, e.length ≤ 9223372036854775807) : ∃ r, Ev (fun k => laws_szVersionSS.f k l a) r ∧ r ≤ a ∧ (0 ≤ r → (l.length ≤ 1048576 ∧ ∀ e ∈ l, e.length ≤ 1048576)) := by
  unfold laws_szVersionSS.f
  rw [wrap_in (by omega) (by omega)]
  by_cases h : a - (l.length : Int) < 0
  · simp only [h, if_true]; exact ⟨-1, Ev.now _, by omega, fun h => absurd h (by omega)⟩
  simp only [h, if_false]
  refine ev_to (σ := Int) (fun s i k => laws_szVersionSS.l0 k l s (i : Int)) l.length (fun s i => 0 ≤ s ∧ s ≤ a ∧ ∀ j (hj : j < l.length), j < i → l[j].length ≤ 1048576) (fun r => r ≤ a ∧ (0 ≤ r → (l.length ≤ 1048576 ∧ ∀ e ∈ l, e.length ≤ 1048576))) ?_ ?_ (a - (l.length : Int)) 0 (Nat.zero_le _) ⟨by omega, by omega, fun j hj h => absurd h (by omega)⟩
  · intro s i hi ⟨hs, hsa, hI⟩ ih
    have h2 : (i : Int) < (l.length : Int) := by omega
    have hrd : rd_L5 l (i : Int) = l[i] := by simp [rd_L5, hi]
    obtain ⟨r, e, hr, hf⟩ := szx_Version (rd_L5 l (i : Int)) s hs (by omega) (by rw [hrd]; exact hg _ (List.getElem_mem hi))
    by_cases c : r < 0
    · refine ⟨-1, Ev.succ ?_, by omega, fun h => absurd h (by omega)⟩
      simp only [laws_szVersionSS.l0, h2, Int.natCast_nonneg, if_true]
      exact Ev.bind e (by simp only [c, if_true]; exact Ev.now _)
    · obtain ⟨r', e', h'⟩ := ih r ⟨by omega, by omega, fun j hj hji => if hh : j < i then hI j hj hh else by obtain rfl : j = i := (by omega); rw [← hrd]; exact hf (by omega)⟩
      refine ⟨r', Ev.succ ?_, h'⟩
      simp only [laws_szVersionSS.l0, h2, Int.natCast_nonneg, if_true]
      exact Ev.bind e (by simp only [c, if_false, wrap_up hi (by omega)]; exact e')
  · intro s ⟨hs, hsa, hI⟩
    refine ⟨s, Ev.succ ?_, hsa, fun _ => ⟨by omega, fun e he => ?_⟩⟩
    · simp only [laws_szVersionSS.l0, Int.lt_irrefl, if_false]; exact Ev.now _
    · obtain ⟨j, hj, rfl⟩ := List.getElem_of_mem he
      exact hI j hj hj

theorem ev_toVersionSS (l : List (List S236)) (h : l.length ≤ 1048576 ∧ ∀ e ∈ l, e.length ≤ 1048576) : Ev (fun k => laws_toVersionSS.f k l) (l.map (List.map cvVersion)) := by
  have hl := h.1
  have hh : Ev (fun k => laws_toVersionSS.l0 k l (List.replicate l.length []) ((0 : Nat) : Int)) (l.map (List.map cvVersion)) := by
    refine ev_up (σ := List (List S160)) (fun ys i k => laws_toVersionSS.l0 k l ys (i : Int)) l.length (fun ys i => Filled (l.map (List.map cvVersion)) ys i) (fun _ _ => l.map (List.map cvVersion)) ?_ ?_ (List.replicate l.length []) 0 (Nat.zero_le _) (Filled.start _ _ (by simp))
    · intro ys i hi hI ih
      apply Ev.succ
      have h1 : (i : Int) < (l.length : Int) := by omega
      have h2 : (i : Int) < (ys.length : Int) := by have := hI.1; simp at this; omega
      have hrd : rd_L5 l (i : Int) = l[i] := by simp [rd_L5, hi]
      simp only [laws_toVersionSS.l0, h1, Int.natCast_nonneg, if_true]
      refine Ev.bind (ev_toVersionS _ (by rw [hrd]; exact h.2 _ (List.getElem_mem hi))) ?_
      simp only [h2, if_true, Int.toNat_natCast, wrap_up hi (by omega)]
      exact ih _ (hI.step (by simpa using hi) (by simp [hrd]))
    · intro ys hI
      apply Ev.succ
      simp only [laws_toVersionSS.l0, Int.lt_irrefl, if_false]
      exact Ev.some (Filled.done (by simpa using hI))
  unfold laws_toVersionSS.f
  have h3 : ((l.length : Int) : Int).toNat ≤ 11728124029610 := by omega
  simp only [Int.natCast_nonneg, if_true, h3]
  simpa using hh

theorem ev_eqVersionSS (l : List (List S160)) (h : l.length ≤ 1048576 ∧ ∀ e ∈ l, e.length ≤ 1048576) : Ev (fun k => laws_eqVersionSS.f k l l) true := by
  have hl := h.1
  have hh : Ev (fun k => laws_eqVersionSS.l0 k l l ((0 : Nat) : Int)) true := by
    refine ev_up (σ := Unit) (fun _ i k => laws_eqVersionSS.l0 k l l (i : Int)) l.length (fun _ _ => True) (fun _ _ => true) ?_ ?_ () 0 (Nat.zero_le _) trivial
    · intro ys i hi hI ih
      apply Ev.succ
      have h1 : (i : Int) < (l.length : Int) := by omega
      have hrd : rd_L2 l (i : Int) = l[i] := by simp [rd_L2, hi]
      simp only [laws_eqVersionSS.l0, h1, Int.natCast_nonneg, if_true]
      refine Ev.bind (ev_eqVersionS _ (by rw [hrd]; have := h.2 _ (List.getElem_mem hi); omega)) ?_
      simp only [if_true, wrap_up hi (by omega)]
      exact ih () trivial
    · intro ys hI
      apply Ev.succ
      simp only [laws_eqVersionSS.l0, Int.lt_irrefl, if_false]
      exact Ev.now _
  unfold laws_eqVersionSS.f
  simp only [if_true]
  exact hh

def mkIndexNode : Int → S77 := (fun a : Int => (⟨a, a + 1, a + 2⟩ : S77))
theorem ev_markIndexNodeS (l : List S77) (hl : l.length ≤ 4194304) : Ev (fun k => laws_markIndexNodeS.f k l 1) (1 + 3 * (l.length : Int), markL mkIndexNode 3 l.length 1) := by
  have h : Ev (fun k => laws_markIndexNodeS.l0 k l 1 ((0 : Nat) : Int)) (1 + 3 * (l.length : Int), markL mkIndexNode 3 l.length 1) := by
    refine ev_up (σ := List S77 × Int) (fun s i k => laws_markIndexNodeS.l0 k s.1 s.2 (i : Int)) l.length (fun s i => Filled (markL mkIndexNode 3 l.length 1) s.1 i ∧ s.2 = 1 + 3 * (i : Int)) (fun _ _ => (1 + 3 * (l.length : Int), markL mkIndexNode 3 l.length 1)) ?_ ?_ (l, 1) 0 (Nat.zero_le _) ⟨Filled.start _ _ (by simp [markL_length]), by simp⟩
    · rintro ⟨ys, a⟩ i hi ⟨hI, ha⟩ ih
      apply Ev.succ
      dsimp only at ha hI ⊢
      have hly : ys.length = l.length := by have := hI.1; simpa [markL_length] using this
      have h1 : (i : Int) < (ys.length : Int) := by omega
      have hiy : i < ys.length := by omega
      have w0 : wrap64 (a + 1) = a + 1 := wrap_in (by omega) (by omega)
      have w1 : wrap64 (a + 2) = a + 2 := wrap_in (by omega) (by omega)
      have w2 : wrap64 (a + 3) = a + 3 := wrap_in (by omega) (by omega)
      have hr := ih (ys.set i (mkIndexNode a), a + 3) ⟨hI.step (by simpa [markL_length] using hi) (by rw [markL_get, ha]; rfl), by dsimp only; omega⟩
      dsimp only at hr
      simp only [laws_markIndexNodeS.l0, Option.bind_some, h1, Int.natCast_nonneg, if_true, Int.toNat_natCast, wrap_up hi (by omega), w0, w1, w2, show a + 1 + 1 = a + 2 from by omega, show a + 2 + 1 = a + 3 from by omega]
      simpa [mkIndexNode, rd_T77, hiy] using hr
    · rintro ⟨ys, a⟩ ⟨hI, ha⟩
      apply Ev.succ
      dsimp only at ha hI ⊢
      have hly : ys.length = l.length := by have := hI.1; simpa [markL_length] using this
      have h1 : ¬ ((l.length : Int) < (ys.length : Int)) := by omega
      simp only [laws_markIndexNodeS.l0, h1, if_false]
      have hd : ys = markL mkIndexNode 3 l.length 1 := Filled.done (by rw [markL_length]; exact hI)
      exact Ev.some (by rw [ha, hd])
  exact h
theorem ev_heldIndexNodeS (n : Nat) (hn : n ≤ 4194304) : Ev (fun k => laws_heldIndexNodeS.f k (markL mkIndexNode 3 n 1) 1) (1 + 3 * (n : Int)) := by
  have h : Ev (fun k => laws_heldIndexNodeS.l0 k (markL mkIndexNode 3 n 1) 1 ((0 : Nat) : Int)) (1 + 3 * (n : Int)) := by
    refine ev_up (σ := Int) (fun a i k => laws_heldIndexNodeS.l0 k (markL mkIndexNode 3 n 1) a (i : Int)) n (fun a i => a = 1 + 3 * (i : Int)) (fun _ _ => 1 + 3 * (n : Int)) ?_ ?_ 1 0 (Nat.zero_le _) (by simp)
    · intro a i hi ha ih
      apply Ev.succ
      have h1 : (i : Int) < ((markL mkIndexNode 3 n 1).length : Int) := by rw [markL_length]; omega
      have hiy : i < (markL mkIndexNode 3 n 1).length := by rw [markL_length]; omega
      have hg : (markL mkIndexNode 3 n 1)[i] = mkIndexNode a := by rw [markL_get, ha]; rfl
      have w0 : wrap64 (a + 1) = a + 1 := wrap_in (by omega) (by omega)
      have w1 : wrap64 (a + 2) = a + 2 := wrap_in (by omega) (by omega)
      have w2 : wrap64 (a + 3) = a + 3 := wrap_in (by omega) (by omega)
      have hr := ih (a + 3) (by omega)
      have hrd : rd_T77 (markL mkIndexNode 3 n 1) (i : Int) = mkIndexNode a := by rw [← hg]; simp [rd_T77, hiy]
      simp only [laws_heldIndexNodeS.l0, h1, Int.natCast_nonneg, if_true, hrd, wrap_up hi (by omega), w0, w1, w2, show a + 1 + 1 = a + 2 from by omega, show a + 2 + 1 = a + 3 from by omega]
      simpa [mkIndexNode] using hr
    · intro a ha
      apply Ev.succ
      have h1 : ¬ ((n : Int) < ((markL mkIndexNode 3 n 1).length : Int)) := by rw [markL_length]; omega
      simp only [laws_heldIndexNodeS.l0, h1, if_false]
      exact Ev.some ha
  exact h

def mkVersion : Int → S160 := (fun a : Int => (⟨a, a + 1, a + 2, a + 3, a + 4⟩ : S160))
theorem ev_markVersionS (l : List S160) (hl : l.length ≤ 4194304) : Ev (fun k => laws_markVersionS.f k l 1) (1 + 5 * (l.length : Int), markL mkVersion 5 l.length 1) := by
  have h : Ev (fun k => laws_markVersionS.l0 k l 1 ((0 : Nat) : Int)) (1 + 5 * (l.length : Int), markL mkVersion 5 l.length 1) := by
    refine ev_up (σ := List S160 × Int) (fun s i k => laws_markVersionS.l0 k s.1 s.2 (i : Int)) l.length (fun s i => Filled (markL mkVersion 5 l.length 1) s.1 i ∧ s.2 = 1 + 5 * (i : Int)) (fun _ _ => (1 + 5 * (l.length : Int), markL mkVersion 5 l.length 1)) ?_ ?_ (l, 1) 0 (Nat.zero_le _) ⟨Filled.start _ _ (by simp [markL_length]), by simp⟩
    · rintro ⟨ys, a⟩ i hi ⟨hI, ha⟩ ih
      apply Ev.succ
      dsimp only at ha hI ⊢
      have hly : ys.length = l.length := by have := hI.1; simpa [markL_length] using this
      have h1 : (i : Int) < (ys.length : Int) := by omega
      have hiy : i < ys.length := by omega
      have w0 : wrap64 (a + 1) = a + 1 := wrap_in (by omega) (by omega)
      have w1 : wrap64 (a + 2) = a + 2 := wrap_in (by omega) (by omega)
      have w2 : wrap64 (a + 3) = a + 3 := wrap_in (by omega) (by omega)
      have w3 : wrap64 (a + 4) = a + 4 := wrap_in (by omega) (by omega)
      have w4 : wrap64 (a + 5) = a + 5 := wrap_in (by omega) (by omega)
      have hr := ih (ys.set i (mkVersion a), a + 5) ⟨hI.step (by simpa [markL_length] using hi) (by rw [markL_get, ha]; rfl), by dsimp only; omega⟩
      dsimp only at hr
      simp only [laws_markVersionS.l0, Option.bind_some, h1, Int.natCast_nonneg, if_true, Int.toNat_natCast, wrap_up hi (by omega), w0, w1, w2, w3, w4, show a + 1 + 1 = a + 2 from by omega, show a + 2 + 1 = a + 3 from by omega, show a + 3 + 1 = a + 4 from by omega, show a + 4 + 1 = a + 5 from by omega]
      simpa [mkVersion, rd_T160, hiy] using hr
    · rintro ⟨ys, a⟩ ⟨hI, ha⟩
      apply Ev.succ
      dsimp only at ha hI ⊢
      have hly : ys.length = l.length := by have := hI.1; simpa [markL_length] using this
      have h1 : ¬ ((l.length : Int) < (ys.length : Int)) := by omega
      simp only [laws_markVersionS.l0, h1, if_false]
      have hd : ys = markL mkVersion 5 l.length 1 := Filled.done (by rw [markL_length]; exact hI)
      exact Ev.some (by rw [ha, hd])
  exact h


theorem l1In_eq (a b c : Int) : spec_l1In.f a b c = some (decide (b ≤ a) && decide (a ≤ c)) := by
  by_cases h : b ≤ a <;> simp [spec_l1In.f, h]
theorem in_eq (a b c : Int) : impl_in.f a b c = some (decide (b ≤ a) && decide (a ≤ c)) := by
  by_cases h : b ≤ a <;> simp [impl_in.f, h]
theorem ex_succ {α : Type} {g : Nat → Option α} {P : α → Prop} (h : ∃ r, Ev (fun k => g (k + 1)) r ∧ P r) : ∃ r, Ev g r ∧ P r := by
  obtain ⟨r, a, b⟩ := h
  exact ⟨r, Ev.succ a, b⟩
theorem ex_ite {α : Type} {c : Prop} [Decidable c] {f g : Nat → Option α} {P : α → Prop} (h1 : c → ∃ r, Ev f r ∧ P r) (h2 : ¬ c → ∃ r, Ev g r ∧ P r) : ∃ r, Ev (fun k => if c then f k else g k) r ∧ P r := by
  by_cases h : c
  · simpa only [if_pos h] using h1 h
  · simpa only [if_neg h] using h2 h
theorem ex_now {α : Type} {x : α} {P : α → Prop} (h : P x) : ∃ r, Ev (fun _ => some x) r ∧ P r := ⟨x, Ev.now _, h⟩
theorem ex_bind {α β : Type} {x : Option α} {a : α} (e : x = some a) {g : Nat → α → Option β} {P : β → Prop} (h : ∃ r, Ev (fun k => g k a) r ∧ P r) : ∃ r, Ev (fun k => x.bind (g k)) r ∧ P r := by
  subst e; exact h
theorem ex_bindE {α β : Type} {f : Nat → Option α} {a : α} (e : Ev f a) {g : Nat → α → Option β} {P : β → Prop} (h : ∃ r, Ev (fun k => g k a) r ∧ P r) : ∃ r, Ev (fun k => (f k).bind (g k)) r ∧ P r := by
  obtain ⟨r, h1, h2⟩ := h
  exact ⟨r, Ev.bind e h1, h2⟩
theorem evb_markVersionS (l : List S160) (b : Int) (hb0 : 0 ≤ b) (hb : b ≤ 9007199254740992) (hl : l.length ≤ 4194304) : Ev (fun k => laws_markVersionS.f k l b) (b + 5 * (l.length : Int), markL mkVersion 5 l.length b) := by
  have h : Ev (fun k => laws_markVersionS.l0 k l b ((0 : Nat) : Int)) (b + 5 * (l.length : Int), markL mkVersion 5 l.length b) := by
    refine ev_up (σ := List S160 × Int) (fun s i k => laws_markVersionS.l0 k s.1 s.2 (i : Int)) l.length (fun s i => Filled (markL mkVersion 5 l.length b) s.1 i ∧ s.2 = b + 5 * (i : Int)) (fun _ _ => (b + 5 * (l.length : Int), markL mkVersion 5 l.length b)) ?_ ?_ (l, b) 0 (Nat.zero_le _) ⟨Filled.start _ _ (by simp [markL_length]), by simp⟩
    · rintro ⟨ys, a⟩ i hi ⟨hI, ha⟩ ih
      apply Ev.succ
      dsimp only at ha hI ⊢
      have hly : ys.length = l.length := by have := hI.1; simpa [markL_length] using this
      have h1 : (i : Int) < (ys.length : Int) := by omega
      have hiy : i < ys.length := by omega
      have w0 : wrap64 (a + 1) = a + 1 := wrap_in (by omega) (by omega)
      have w1 : wrap64 (a + 2) = a + 2 := wrap_in (by omega) (by omega)
      have w2 : wrap64 (a + 3) = a + 3 := wrap_in (by omega) (by omega)
      have w3 : wrap64 (a + 4) = a + 4 := wrap_in (by omega) (by omega)
      have w4 : wrap64 (a + 5) = a + 5 := wrap_in (by omega) (by omega)
      have hr := ih (ys.set i (mkVersion a), a + 5) ⟨hI.step (by simpa [markL_length] using hi) (by rw [markL_get, ha]; rfl), by dsimp only; omega⟩
      dsimp only at hr
      simp only [laws_markVersionS.l0, Option.bind_some, h1, Int.natCast_nonneg, if_true, Int.toNat_natCast, wrap_up hi (by omega), w0, w1, w2, w3, w4, show a + 1 + 1 = a + 2 from by omega, show a + 2 + 1 = a + 3 from by omega, show a + 3 + 1 = a + 4 from by omega, show a + 4 + 1 = a + 5 from by omega]
      simpa [mkVersion, rd_T160, hiy] using hr
    · rintro ⟨ys, a⟩ ⟨hI, ha⟩
      apply Ev.succ
      dsimp only at ha hI ⊢
      have hly : ys.length = l.length := by have := hI.1; simpa [markL_length] using this
      have h1 : ¬ ((l.length : Int) < (ys.length : Int)) := by omega
      simp only [laws_markVersionS.l0, h1, if_false]
      have hd : ys = markL mkVersion 5 l.length b := Filled.done (by rw [markL_length]; exact hI)
      exact Ev.some (by rw [ha, hd])
  exact h
theorem ev_markVersionSS (l : List (List S160)) (hl : l.length ≤ 1048576) (he : ∀ e ∈ l, e.length ≤ 1048576) : ∃ r, Ev (fun k => laws_markVersionSS.f k l 1) r ∧ (1 ≤ r ∧ r ≤ 1 + 5242880 * (l.length : Int)) := by
  show ∃ r, Ev (fun k => laws_markVersionSS.l0 k l 1 ((0 : Nat) : Int)) r ∧ (1 ≤ r ∧ r ≤ 1 + 5242880 * (l.length : Int))
  refine ev_to (σ := List (List S160) × Int) (fun s i k => laws_markVersionSS.l0 k s.1 s.2 (i : Int)) l.length (fun s i => s.1.length = l.length ∧ (∀ e ∈ s.1, e.length ≤ 1048576) ∧ 1 ≤ s.2 ∧ s.2 ≤ 1 + 5242880 * (i : Int)) (fun r => 1 ≤ r ∧ r ≤ 1 + 5242880 * (l.length : Int)) ?_ ?_ (l, 1) 0 (Nat.zero_le _) ⟨rfl, he, by dsimp only; omega, by dsimp only; omega⟩
  · rintro ⟨xs, a⟩ i hi ⟨hlen, hle, ha0, ha1⟩ ih
    dsimp only at hlen hle ha0 ha1 ⊢
    have hix : i < xs.length := by omega
    have h1 : (i : Int) < (xs.length : Int) := by omega
    have hg : xs.getD i [] = xs[i] := getD_lt xs i [] hix
    have hel := hle _ (List.getElem_mem hix)
    have em := evb_markVersionS xs[i] a (by omega) (by omega) (by omega)
    obtain ⟨r, h, hR⟩ := ih (xs.set i (markL mkVersion 5 xs[i].length a), a + 5 * (xs[i].length : Int)) ⟨by dsimp only; rw [List.length_set]; exact hlen, fun e hm => by
      rcases List.mem_or_eq_of_mem_set hm with hm | rfl
      · exact hle e hm
      · rw [markL_length]; exact hel, by dsimp only; omega, by dsimp only; omega⟩
    refine ⟨r, Ev.succ ?_, hR⟩
    simp only [laws_markVersionSS.l0, h1, Int.natCast_nonneg, if_true, Int.toNat_natCast, hg, wrap_up hix (by omega)]
    exact Ev.bind em h
  · rintro ⟨xs, a⟩ ⟨hlen, hle, ha0, ha1⟩
    dsimp only at hlen hle ha0 ha1 ⊢
    refine ⟨a, Ev.succ ?_, ha0, ha1⟩
    have h1 : ¬ (l.length : Int) < (xs.length : Int) := by omega
    simp only [laws_markVersionSS.l0, h1, if_false]; exact Ev.now _
def vok (a0 a1 a2 a3 a4 : Int) : Bool := (decide (-1 ≤ a1) && decide (a1 ≤ 99)) && ((decide (0 ≤ a2) && decide (a2 ≤ 999)) && ((decide (a2 ≤ a3) && decide (a3 ≤ 999)) && ((decide (1 ≤ a4) && decide (a4 ≤ 1000)) && (if a2 = 0 then (if a0 = 0 then (a1 == -1) else false) else (decide (1 ≤ a0) && decide (a0 ≤ 9))))))
theorem version_both (a0 a1 a2 a3 a4 : Int) : Ev (fun k => spec_IsValidVersion.f k a0 a1 a2 a3 a4) (vok a0 a1 a2 a3 a4) ∧ Ev (fun k => impl_IsValidVersion.f k a0 a1 a2 a3 a4) (vok a0 a1 a2 a3 a4) := by
  have jS : ∀ t : Bool, Ev (fun k => spec_IsValidVersion.j0 k t a0 a1 a2 a3 a4) (!t && (if a2 = 0 then (if a0 = 0 then (a1 == -1) else false) else (decide (1 ≤ a0) && decide (a0 ≤ 9)))) := by
    intro t
    apply Ev.succ
    cases t
    · simp only [spec_IsValidVersion.j0, l1In_eq, Bool.false_eq_true, if_false, Option.bind_some, Bool.not_false, Bool.true_and]
      by_cases c : a2 = 0 <;> by_cases d : a0 = 0 <;> simp only [c, d, if_true, if_false] <;> exact Ev.now _
    · simp only [spec_IsValidVersion.j0, if_true, Bool.not_true, Bool.false_and]; exact Ev.now _
  have jI : ∀ t : Bool, Ev (fun k => impl_IsValidVersion.j0 k t a0 a1 a2 a3 a4) (!t && (if a2 = 0 then (if a0 = 0 then (a1 == -1) else false) else (decide (1 ≤ a0) && decide (a0 ≤ 9)))) := by
    intro t
    apply Ev.succ
    cases t
    · simp only [impl_IsValidVersion.j0, impl_isID.f, in_eq, Bool.false_eq_true, if_false, Option.bind_some, Bool.not_false, Bool.true_and]
      by_cases c : a2 = 0 <;> by_cases d : a0 = 0 <;> simp only [c, d, if_true, if_false] <;> exact Ev.now _
    · simp only [impl_IsValidVersion.j0, if_true, Bool.not_true, Bool.false_and]; exact Ev.now _
  unfold vok
  revert jS jI
  generalize (if a2 = 0 then (if a0 = 0 then (a1 == -1) else false) else (decide (1 ≤ a0) && decide (a0 ≤ 9))) = v
  intro jS jI
  constructor
  · unfold spec_IsValidVersion.f
    simp only [l1In_eq, Option.bind_some]
    cases (decide (-1 ≤ a1) && decide (a1 ≤ 99)) <;> cases (decide (0 ≤ a2) && decide (a2 ≤ 999)) <;> cases (decide (a2 ≤ a3) && decide (a3 ≤ 999)) <;> cases (decide (1 ≤ a4) && decide (a4 ≤ 1000)) <;> simp only [Bool.false_eq_true, if_false, if_true, Bool.false_and, Bool.true_and] <;> first | exact jS true | exact jS false
  · unfold impl_IsValidVersion.f
    simp only [impl_isValue.f, in_eq, Option.bind_some]
    cases (decide (-1 ≤ a1) && decide (a1 ≤ 99)) <;> cases (decide (0 ≤ a2) && decide (a2 ≤ 999)) <;> cases (decide (a2 ≤ a3) && decide (a3 ≤ 999)) <;> cases (decide (1 ≤ a4) && decide (a4 ≤ 1000)) <;> simp only [Bool.false_eq_true, if_false, if_true, Bool.false_and, Bool.true_and] <;> first | exact jI true | exact jI false
theorem vok_stamp {a0 a1 a2 a3 a4 : Int} (h : vok a0 a1 a2 a3 a4 = true) : 0 ≤ a2 ∧ a2 ≤ 999 := by
  unfold vok at h
  simp only [Bool.and_eq_true, decide_eq_true_eq] at h
  exact h.2.1
def vat (l : List S160) (j : Nat) : Bool := vok (rd_T160 l (j : Int)).f0 (rd_T160 l (j : Int)).f1 (rd_T160 l (j : Int)).f2 (rd_T160 l (j : Int)).f3 (rd_T160 l (j : Int)).f4
def step (l : List S160) (j : Nat) : Prop := (rd_T160 l (j : Int)).f2 < (rd_T160 l ((j + 1 : Nat) : Int)).f2 ∧ (rd_T160 l (j : Int)).f4 ≤ (rd_T160 l ((j + 1 : Nat) : Int)).f2
def VC (l : List S160) : Prop := (∀ j : Nat, j < l.length → vat l j = true) ∧ (∀ j : Nat, j + 1 < l.length → step l j) ∧ 0 < l.length ∧ (rd_T160 l ((l.length - 1 : Nat) : Int)).f4 = 1000
theorem chain_spec (l : List S160) (hl : l.length ≤ 1048576) : ∃ r, Ev (fun k => spec_IsValidChain.f k l) r ∧ (r = true ↔ VC l) := by
  refine ev_to (σ := Unit) (fun _ i k => spec_IsValidChain.l0 k l (i : Int)) l.length (fun _ i => (∀ j, j < i → vat l j = true) ∧ ∀ j, j < i → j + 1 < l.length → step l j) (fun r => r = true ↔ VC l) ?_ ?_ () 0 (Nat.zero_le _) ⟨fun j hj => absurd hj (by omega), fun j hj => absurd hj (by omega)⟩
  · rintro _ i hi ⟨hv, hs⟩ ih
    have h1 : (i : Int) < (l.length : Int) := by omega
    have e0 := wrap_up hi (by omega)
    have ev := (version_both (rd_T160 l (i : Int)).f0 (rd_T160 l (i : Int)).f1 (rd_T160 l (i : Int)).f2 (rd_T160 l (i : Int)).f3 (rd_T160 l (i : Int)).f4).1
    have hf : ∀ {P : Prop}, ¬ P → ((false = true) ↔ P) := fun h => ⟨fun h' => (nomatch h'), fun h' => absurd h' h⟩
    apply ex_succ
    simp only [spec_IsValidChain.l0]
    rw [e0]
    refine ex_ite (fun _ => ?_) (fun c => absurd h1 c)
    refine ex_ite (fun _ => ?_) (fun c => absurd (Int.natCast_nonneg i) c)
    refine ex_bindE ev ?_
    have hva : vat l i = vok (rd_T160 l (i : Int)).f0 (rd_T160 l (i : Int)).f1 (rd_T160 l (i : Int)).f2 (rd_T160 l (i : Int)).f3 (rd_T160 l (i : Int)).f4 := rfl
    refine ex_ite (fun c1 => ?_) (fun c1 => ex_now (hf (fun h => c1 (by rw [← hva]; exact h.1 i hi))))
    have hv' : ∀ j, j < i + 1 → vat l j = true := fun j hj => if hh : j < i then hv j hh else by obtain rfl : j = i := (by omega); rw [hva]; exact c1
    refine ex_ite (fun c2 => ?_) (fun c2 => ih () ⟨hv', fun j hj hjl => if hh : j < i then hs j hh hjl else by omega⟩)
    have c2' : i + 1 < l.length := by omega
    refine ex_ite (fun _ => ?_) (fun c => absurd (Int.natCast_nonneg _) c)
    refine ex_ite (fun c3 => ex_now (hf (fun h => by have := (h.2.1 i c2').1; omega))) (fun c3 => ?_)
    refine ex_ite (fun c4 => ex_now (hf (fun h => by have := (h.2.1 i c2').2; omega))) (fun c4 => ?_)
    exact ih () ⟨hv', fun j hj hjl => if hh : j < i then hs j hh hjl else by obtain rfl : j = i := (by omega); exact ⟨by omega, by omega⟩⟩
  · rintro _ ⟨hv, hs⟩
    have hf : ∀ {P : Prop}, ¬ P → ((false = true) ↔ P) := fun h => ⟨fun h' => (nomatch h'), fun h' => absurd h' h⟩
    apply ex_succ
    simp only [spec_IsValidChain.l0]
    refine ex_ite (fun c => absurd c (Int.lt_irrefl _)) (fun _ => ?_)
    refine ex_ite (fun c1 => ?_) (fun c1 => ex_now (hf (fun h => c1 (by have := h.2.2.1; omega))))
    have e1 : wrap64 ((l.length : Int) - 1) = ((l.length - 1 : Nat) : Int) := wrap_down (by omega) (by omega)
    rw [e1]
    refine ex_ite (fun _ => ?_) (fun c => absurd (Int.natCast_nonneg _) c)
    refine ex_ite (fun _ => ex_now ?_) (fun c => absurd (by omega) c)
    rw [beq_iff_eq]
    exact ⟨fun h => ⟨hv, fun j hj => hs j (by omega) hj, by omega, h⟩, fun h => h.2.2.2⟩
theorem chain_impl (l : List S160) (hl : l.length ≤ 1048576) : ∃ r, Ev (fun k => impl_IsValidChain.f k l) r ∧ (r = true ↔ VC l) := by
  refine ev_to (σ := Unit) (fun _ i k => impl_IsValidChain.l0 k l l (l.length : Int) (i : Int)) l.length (fun _ i => (∀ j, j < i → vat l j = true) ∧ ∀ j, j + 1 < i → step l j) (fun r => r = true ↔ VC l) ?_ ?_ () 0 (Nat.zero_le _) ⟨fun j hj => absurd hj (by omega), fun j hj => absurd hj (by omega)⟩
  · rintro _ i hi ⟨hv, hs⟩ ih
    have h1 : (i : Int) < (l.length : Int) := by omega
    have e0 := wrap_up hi (by omega)
    have ev := (version_both (rd_T160 l (i : Int)).f0 (rd_T160 l (i : Int)).f1 (rd_T160 l (i : Int)).f2 (rd_T160 l (i : Int)).f3 (rd_T160 l (i : Int)).f4).2
    have hf : ∀ {P : Prop}, ¬ P → ((false = true) ↔ P) := fun h => ⟨fun h' => (nomatch h'), fun h' => absurd h' h⟩
    have hva : vat l i = vok (rd_T160 l (i : Int)).f0 (rd_T160 l (i : Int)).f1 (rd_T160 l (i : Int)).f2 (rd_T160 l (i : Int)).f3 (rd_T160 l (i : Int)).f4 := rfl
    apply ex_succ
    simp only [impl_IsValidChain.l0]
    rw [e0]
    refine ex_ite (fun _ => ?_) (fun c => absurd h1 c)
    refine ex_ite (fun _ => ?_) (fun c => absurd (Int.natCast_nonneg i) c)
    refine ex_ite (fun _ => ?_) (fun c => absurd h1 c)
    refine ex_bindE ev ?_
    refine ex_ite (fun c1 => ?_) (fun c1 => ex_now (hf (fun h => c1 (by rw [← hva]; exact h.1 i hi))))
    have hv' : ∀ j, j < i + 1 → vat l j = true := fun j hj => if hh : j < i then hv j hh else by obtain rfl : j = i := (by omega); rw [hva]; exact c1
    refine ex_ite (fun c2 => ?_) (fun c2 => ih () ⟨hv', fun j hj => if hh : j + 1 < i then hs j hh else by omega⟩)
    have e1 : wrap64 ((i : Int) - 1) = ((i - 1 : Nat) : Int) := wrap_down (by omega) (by omega)
    rw [e1]
    refine ex_ite (fun _ => ?_) (fun c => absurd (Int.natCast_nonneg _) c)
    refine ex_ite (fun _ => ?_) (fun c => absurd (by omega) c)
    have hst : ∀ h : VC l, step l (i - 1) := fun h => h.2.1 (i - 1) (by omega)
    have hi1 : i - 1 + 1 = i := by omega
    refine ex_ite (fun c3 => ex_now (hf (fun h => by have := (hst h).1; rw [hi1] at this; omega))) (fun c3 => ?_)
    refine ex_ite (fun c4 => ex_now (hf (fun h => by have := (hst h).2; rw [hi1] at this; omega))) (fun c4 => ?_)
    exact ih () ⟨hv', fun j hj => if hh : j + 1 < i then hs j hh else by obtain rfl : j = i - 1 := (by omega); exact ⟨by rw [hi1]; omega, by rw [hi1]; omega⟩⟩
  · rintro _ ⟨hv, hs⟩
    have hf : ∀ {P : Prop}, ¬ P → ((false = true) ↔ P) := fun h => ⟨fun h' => (nomatch h'), fun h' => absurd h' h⟩
    apply ex_succ
    simp only [impl_IsValidChain.l0]
    refine ex_ite (fun c => absurd c (Int.lt_irrefl _)) (fun _ => ?_)
    refine ex_ite (fun c1 => ?_) (fun c1 => ex_now (hf (fun h => c1 (by have := h.2.2.1; omega))))
    have e1 : wrap64 ((l.length : Int) - 1) = ((l.length - 1 : Nat) : Int) := wrap_down (by omega) (by omega)
    rw [e1]
    refine ex_ite (fun _ => ?_) (fun c => absurd (Int.natCast_nonneg _) c)
    refine ex_ite (fun _ => ex_now ?_) (fun c => absurd (by omega) c)
    rw [beq_iff_eq]
    exact ⟨fun h => ⟨hv, fun j hj => hs j (by omega), by omega, h⟩, fun h => h.2.2.2⟩
theorem store_both (l : List (List S160)) (hl : l.length ≤ 1048576) (he : ∀ e ∈ l, e.length ≤ 1048576) : ∃ r, Ev (fun k => spec_IsValidStore.f k l) r ∧ Ev (fun k => impl_IsValidStore.f k l) r ∧ (r = true ↔ (∀ e ∈ l, VC e ∧ e.length ≤ 50) ∧ l.length = 6) := by
  have hf : ∀ {P : Prop}, ¬ P → ((false = true) ↔ P) := fun h => ⟨fun h' => (nomatch h'), fun h' => absurd h' h⟩
  have hS : ∃ r, Ev (fun k => spec_IsValidStore.f k l) r ∧ (r = true ↔ (∀ e ∈ l, VC e ∧ e.length ≤ 50) ∧ l.length = 6) := by
    refine ev_to (σ := Unit) (fun _ i k => spec_IsValidStore.l0 k (i : Int) l) l.length (fun _ i => ∀ j (hj : j < l.length), j < i → VC l[j] ∧ l[j].length ≤ 50) (fun r => r = true ↔ (∀ e ∈ l, VC e ∧ e.length ≤ 50) ∧ l.length = 6) ?_ ?_ () 0 (Nat.zero_le _) (fun j _ hj => absurd hj (by omega))
    · intro _ i hi hI ih
      have h1 : (i : Int) < (l.length : Int) := by omega
      have hrd : rd_L2 l (i : Int) = l[i] := by simp [rd_L2, hi]
      obtain ⟨r, er, hr⟩ := chain_spec l[i] (he _ (List.getElem_mem hi))
      apply ex_succ
      simp only [spec_IsValidStore.l0]
      rw [wrap_up hi (by omega), hrd]
      refine ex_ite (fun _ => ?_) (fun c => absurd h1 c)
      refine ex_ite (fun _ => ?_) (fun c => absurd (Int.natCast_nonneg i) c)
      refine ex_bindE er ?_
      refine ex_ite (fun c1 => ?_) (fun c1 => ex_now (hf (fun h => c1 (hr.2 (h.1 _ (List.getElem_mem hi)).1))))
      have hvc := hr.1 c1
      have hnext : l[i].length ≤ 50 → ∀ j (hj : j < l.length), j < i + 1 → VC l[j] ∧ l[j].length ≤ 50 := fun h50 j hj hji => if hh : j < i then hI j hj hh else by obtain rfl : j = i := (by omega); exact ⟨hvc, h50⟩
      have hbig : (l[i].length : Int) > 50 → ¬ ((∀ e ∈ l, VC e ∧ e.length ≤ 50) ∧ l.length = 6) := fun h h' => by have := (h'.1 _ (List.getElem_mem hi)).2; omega
      refine ex_ite (fun _ => ?_) (fun c => absurd (by have := hvc.2.2.1; omega) c)
      exact ex_ite (fun _ => ex_ite (fun c => ex_now (hf (hbig c))) (fun c => ih () (hnext (by omega)))) (fun _ => ex_ite (fun c => ex_now (hf (hbig c))) (fun c => ih () (hnext (by omega))))
    · intro _ hI
      apply ex_succ
      simp only [spec_IsValidStore.l0]
      refine ex_ite (fun c => absurd c (Int.lt_irrefl _)) (fun _ => ex_now ?_)
      rw [beq_iff_eq]
      refine ⟨fun h => ⟨fun e hm => ?_, by omega⟩, fun h => by omega⟩
      obtain ⟨j, hj, rfl⟩ := List.getElem_of_mem hm
      exact hI j hj hj
  have hI : ∃ r, Ev (fun k => impl_IsValidStore.f k l) r ∧ (r = true ↔ (∀ e ∈ l, VC e ∧ e.length ≤ 50) ∧ l.length = 6) := by
    unfold impl_IsValidStore.f
    refine ex_ite (fun c => ?_) (fun c => ex_now (hf (fun h => c (by omega))))
    have key : ∃ q, Ev (fun k => impl_Version_212.f k l) q ∧ ((decide (q ≥ 0) = false) ↔ (∀ e ∈ l, VC e ∧ e.length ≤ 50)) := by
      refine ev_to (σ := Unit) (fun _ i k => impl_Version_212.l0 k l (l.length : Int) (i : Int)) l.length (fun _ i => ∀ j (hj : j < l.length), j < i → VC l[j] ∧ l[j].length ≤ 50) (fun q => (decide (q ≥ 0) = false) ↔ (∀ e ∈ l, VC e ∧ e.length ≤ 50)) ?_ ?_ () 0 (Nat.zero_le _) (fun j _ hj => absurd hj (by omega))
      · intro _ i hi hI ih
        have h1 : (i : Int) < (l.length : Int) := by omega
        have hrd : rd_L2 l (i : Int) = l[i] := by simp [rd_L2, hi]
        obtain ⟨r, er, hr⟩ := chain_impl l[i] (he _ (List.getElem_mem hi))
        have e1 : ∃ t, Ev (fun k => impl_IsValidStore_1.f k l[i]) t ∧ (t = true ↔ ¬ (VC l[i] ∧ l[i].length ≤ 50)) := by
          unfold impl_IsValidStore_1.f
          refine ex_bindE er ?_
          refine ex_ite (fun c1 => ex_now ?_) (fun c1 => ex_now ⟨fun _ h => c1 (hr.2 h.1), fun _ => rfl⟩)
          rw [decide_eq_true_eq]
          exact ⟨fun h h' => by have := h'.2; omega, fun h => by
            by_cases q : l[i].length ≤ 50
            · exact absurd ⟨hr.1 c1, q⟩ h
            · omega⟩
        obtain ⟨t, et, htt⟩ := e1
        apply ex_succ
        simp only [impl_Version_212.l0]
        rw [wrap_up hi (by omega), hrd]
        refine ex_ite (fun _ => ?_) (fun c => absurd h1 c)
        refine ex_ite (fun _ => ?_) (fun c => absurd (Int.natCast_nonneg i) c)
        refine ex_ite (fun _ => ?_) (fun c => absurd h1 c)
        refine ex_bindE et ?_
        refine ex_ite (fun c1 => ex_now ?_) (fun c1 => ih () (fun j hj hji => if hh : j < i then hI j hj hh else by
          obtain rfl : j = i := by omega
          exact Classical.byContradiction (fun h => c1 (htt.2 h))))
        have hn := htt.1 c1
        have : decide ((i : Int) ≥ 0) = true := decide_eq_true (Int.natCast_nonneg i)
        rw [this]
        exact ⟨fun h => (nomatch h), fun h => absurd (h _ (List.getElem_mem hi)) hn⟩
      · intro _ hI
        apply ex_succ
        simp only [impl_Version_212.l0]
        refine ex_ite (fun c => absurd c (Int.lt_irrefl _)) (fun _ => ex_now ⟨fun _ e hm => ?_, fun _ => by decide⟩)
        obtain ⟨j, hj, rfl⟩ := List.getElem_of_mem hm
        exact hI j hj hj
    obtain ⟨q, eq, hq⟩ := key
    refine ex_bindE (a := decide (q ≥ 0)) (Ev.bind eq (Ev.now _)) (ex_now ?_)
    rw [Bool.not_eq_true']
    exact ⟨fun h => ⟨hq.1 h, by omega⟩, fun h => hq.2 h.1⟩
  obtain ⟨r, h1, h2⟩ := hS
  obtain ⟨r', h1', h2'⟩ := hI
  have : r = r' := by rw [Bool.eq_iff_iff]; exact h2.trans h2'.symm
  subst this
  exact ⟨r, h1, h1', h2⟩
/-- six nodes, one a key -/
def six (s : Nat → Int) : List S77 := [⟨0, 0, s 0⟩, ⟨1, 1, s 1⟩, ⟨2, 2, s 2⟩, ⟨3, 3, s 3⟩, ⟨4, 4, s 4⟩, ⟨5, 5, s 5⟩]
def upd (s : Nat → Int) (i : Nat) (t : Int) : Nat → Int := fun j => if j = i then t else s j
theorem six_get (s : Nat → Int) (i : Nat) (hi : i < 6) : rd_T77 (six s) (i : Int) = ⟨(i : Int), (i : Int), s i⟩ := by
  rcases (show i = 0 ∨ i = 1 ∨ i = 2 ∨ i = 3 ∨ i = 4 ∨ i = 5 by omega) with rfl | rfl | rfl | rfl | rfl | rfl <;> rfl
theorem six_index (s : Nat → Int) (hs : ∀ j, 0 ≤ s j ∧ s j ≤ 999) : Ev (fun k => spec_IsIndex.f k (six s)) true := by
  show Ev (fun k => spec_IsIndex.l0 k (six s) ((0 : Nat) : Int) ((0 : Nat) : Int)) true
  refine ev_up (σ := Unit) (fun _ i k => spec_IsIndex.l0 k (six s) (i : Int) (i : Int)) 6 (fun _ _ => True) (fun _ _ => true) ?_ ?_ () 0 (Nat.zero_le _) trivial
  · intro _ i hi _ ih
    have h1 : (i : Int) < ((six s).length : Int) := by simp [six]; omega
    have h5 : (i : Int) ≤ 5 := by omega
    have e0 : wrap64 ((i : Int) + 1) = ((i + 1 : Nat) : Int) := wrap_up hi (by omega)
    apply Ev.succ
    simp only [spec_IsIndex.l0, six_get s i hi, h1, h5, l1In_eq, (hs i).1, (hs i).2, e0, Int.natCast_nonneg, Int.le_refl, decide_true, Bool.and_self, if_true, Option.bind_some]
    exact ih () trivial
  · intro _ _
    apply Ev.succ
    simp [spec_IsIndex.l0, six]
    exact Ev.now _
theorem six_set (s : Nat → Int) (i : Nat) (hi : i < 6) (t : Int) : (six s).set i (⟨(i : Int), (i : Int), t⟩ : S77) = six (upd s i t) := by
  rcases (show i = 0 ∨ i = 1 ∨ i = 2 ∨ i = 3 ∨ i = 4 ∨ i = 5 by omega) with rfl | rfl | rfl | rfl | rfl | rfl <;> rfl
theorem upd_upd (s : Nat → Int) (i : Nat) (t u : Int) : upd (upd s i t) i u = upd s i u := by
  funext j
  unfold upd
  by_cases h : j = i <;> simp [h]
theorem mark_six (s : Nat → Int) (hs : ∀ j, 0 ≤ s j ∧ s j ≤ 999) (a : Nat) (ha : a < 6) (st : Int) (h0 : 0 ≤ st ∧ st ≤ 999) : Ev (fun k => spec_MarkIndex.f k (six s) (a : Int) st) (six (upd s a (mx (s a) st))) := by
  have hcap : ([] : List S77).length + (six s).length < 5864062014805 := by simp [six]
  have hcopy : spec_l16Copy.f (six s) = some (six s) := by simp only [spec_l16Copy.f, Option.bind_some, hcap, if_true, List.nil_append]
  have hx : ∀ i : Nat, (if a < i then six (upd s a (mx (s a) st)) else six s).length = 6 := by intro i; split <;> rfl
  unfold spec_MarkIndex.f
  simp only [hcopy, Option.bind_some]
  show Ev (fun k => spec_MarkIndex.l0 k (six s) (a : Int) st (six s) ((0 : Nat) : Int)) _
  refine ev_up (σ := List S77) (fun xs i k => spec_MarkIndex.l0 k (six s) (a : Int) st xs (i : Int)) 6 (fun xs i => xs = if a < i then six (upd s a (mx (s a) st)) else six s) (fun _ _ => six (upd s a (mx (s a) st))) ?_ ?_ (six s) 0 (Nat.zero_le _) (by simp)
  · rintro xs i hi hxs ih
    have hl : xs.length = 6 := by rw [hxs]; exact hx i
    have h1 : (i : Int) < (xs.length : Int) := by omega
    have hl0 : spec_l1In.f st 0 999 = some true := by rw [l1In_eq]; simp [h0.1, h0.2]
    have e0 : wrap64 ((i : Int) + 1) = ((i + 1 : Nat) : Int) := wrap_up hi (by omega)
    apply Ev.succ
    simp only [spec_MarkIndex.l0, h1, if_true]
    refine Ev.bind (six_index s hs) ?_
    simp only [if_true, hl0, Option.bind_some]
    apply Ev.succ
    by_cases c : a < i
    · have hg : rd_T77 xs (i : Int) = ⟨(i : Int), (i : Int), upd s a (mx (s a) st) i⟩ := by rw [hxs, if_pos c]; exact six_get _ i hi
      have hl1 : spec_l1In.f (a : Int) (i : Int) (i : Int) = some false := by
        rw [l1In_eq, show decide ((i : Int) ≤ (a : Int)) = false from decide_eq_false (by omega)]; rfl
      simp only [spec_MarkIndex.j1, h1, hg, hl1, e0, Int.natCast_nonneg, if_true, Option.bind_some, Bool.false_eq_true, if_false]
      exact ih _ (by rw [hxs, if_pos c, if_pos (by omega)])
    · have hxs' : xs = six s := by rw [hxs, if_neg c]
      have hg : rd_T77 xs (i : Int) = ⟨(i : Int), (i : Int), s i⟩ := by rw [hxs']; exact six_get _ i hi
      by_cases d : a = i
      · subst d
        have hl1 : spec_l1In.f (a : Int) (a : Int) (a : Int) = some true := by rw [l1In_eq]; simp
        simp only [spec_MarkIndex.j1, h1, hg, hl1, e0, Int.natCast_nonneg, Int.toNat_natCast, if_true, Option.bind_some]
        exact ih _ (by rw [hxs', six_set s a ha, if_pos (by omega)])
      · have hl1 : spec_l1In.f (a : Int) (i : Int) (i : Int) = some false := by
          rw [l1In_eq, show decide ((a : Int) ≤ (i : Int)) = false from decide_eq_false (by omega), Bool.and_false]
        simp only [spec_MarkIndex.j1, h1, hg, hl1, e0, Int.natCast_nonneg, if_true, Option.bind_some, Bool.false_eq_true, if_false]
        exact ih _ (by rw [hxs', if_neg (by omega)])
  · rintro xs hxs
    rw [if_pos ha] at hxs
    have h1 : ¬ ((6 : Nat) : Int) < (xs.length : Int) := by rw [hxs]; simp [six]
    apply Ev.succ
    simp only [spec_MarkIndex.l0, h1, if_false]
    apply Ev.succ
    simp only [spec_MarkIndex.j1, Bool.false_eq_true, if_false]
    exact Ev.some hxs
theorem split_now {l : List S77} {a : Int} {r : List S77 × Bool} (k : Nat) (h : spec_SplitNode.f k l a = some r) : Ev (fun k => spec_SplitNode.f k l a) r := Ev.of (fun k => spec_SplitNode.mono _ _ k) h
theorem split_six (l : List (List S160)) (r : List S77) (h : Ev (fun k => spec_IndexOf.l1 k (six (fun _ => 0)) 0 l) r) : Ev (fun k => spec_IndexOf.l0 k [(⟨0, 5, 0⟩ : S77)] 1 l) r := by
  have w1 : wrap64 ((1 : Int) + 1) = 2 := by unfold wrap64; omega
  have w2 : wrap64 ((2 : Int) + 1) = 3 := by unfold wrap64; omega
  have w3 : wrap64 ((3 : Int) + 1) = 4 := by unfold wrap64; omega
  have w4 : wrap64 ((4 : Int) + 1) = 5 := by unfold wrap64; omega
  have w5 : wrap64 ((5 : Int) + 1) = 6 := by unfold wrap64; omega
  apply Ev.succ
  simp only [spec_IndexOf.l0, show ((1 : Int) < 6) from by decide, if_true, w1]
  refine Ev.bind (split_now (r := ([⟨0, 0, 0⟩, ⟨1, 5, 0⟩], true)) 30 (by kernel_rfl)) ?_
  apply Ev.succ
  simp only [spec_IndexOf.l0, show ((2 : Int) < 6) from by decide, if_true, w2]
  refine Ev.bind (split_now (r := ([⟨0, 0, 0⟩, ⟨1, 1, 0⟩, ⟨2, 5, 0⟩], true)) 30 (by kernel_rfl)) ?_
  apply Ev.succ
  simp only [spec_IndexOf.l0, show ((3 : Int) < 6) from by decide, if_true, w3]
  refine Ev.bind (split_now (r := ([⟨0, 0, 0⟩, ⟨1, 1, 0⟩, ⟨2, 2, 0⟩, ⟨3, 5, 0⟩], true)) 30 (by kernel_rfl)) ?_
  apply Ev.succ
  simp only [spec_IndexOf.l0, show ((4 : Int) < 6) from by decide, if_true, w4]
  refine Ev.bind (split_now (r := ([⟨0, 0, 0⟩, ⟨1, 1, 0⟩, ⟨2, 2, 0⟩, ⟨3, 3, 0⟩, ⟨4, 5, 0⟩], true)) 30 (by kernel_rfl)) ?_
  apply Ev.succ
  simp only [spec_IndexOf.l0, show ((5 : Int) < 6) from by decide, if_true, w5]
  refine Ev.bind (split_now (r := (six (fun _ => 0), true)) 30 (by kernel_rfl)) ?_
  apply Ev.succ
  simp only [spec_IndexOf.l0, show ¬ ((6 : Int) < 6) from by decide, if_false]
  exact h
theorem both_IndexOf (l : List (List S160)) (hl : l.length ≤ 1048576) (he : ∀ e ∈ l, e.length ≤ 1048576) : ∃ r, Ev (fun k => spec_IndexOf.f k l) r ∧ Ev (fun k => impl_IndexOf.f k l) r ∧ r.length ≤ 6 := by
  obtain ⟨v, eS, eI, hv⟩ := store_both l hl he
  by_cases hvt : v = true
  rotate_left 1
  · refine ⟨[], ?_, ?_, Nat.zero_le _⟩
    · unfold spec_IndexOf.f spec_NewIndex.f
      simp only [Option.bind_some]
      refine Ev.bind eS ?_
      simp only [hvt, if_false]; exact Ev.now _
    · unfold impl_IndexOf.f
      refine Ev.bind eI ?_
      simp only [hvt, if_false]; exact Ev.now _
  obtain ⟨hW, h6⟩ := hv.1 hvt
  subst hvt
  have main : ∃ r, Ev (fun k => spec_IndexOf.l1 k (six (fun _ => 0)) ((0 : Nat) : Int) l) r ∧ Ev (fun k => impl_IndexOf.l0 k ((six (fun _ => 0)).take 0) l (l.length : Int) ((0 : Nat) : Int)) r ∧ r.length ≤ 6 := by
    refine ev_both (σ := Nat → Int) (τ := Nat → Int) (fun s i k => spec_IndexOf.l1 k (six s) (i : Int) l) (fun s i k => impl_IndexOf.l0 k ((six s).take i) l (l.length : Int) (i : Int)) 6 (fun s t i => s = t ∧ (∀ j, 0 ≤ s j ∧ s j ≤ 999) ∧ ∀ j, i ≤ j → s j = 0) (fun r => r.length ≤ 6) ?_ ?_ (fun _ => 0) (fun _ => 0) 0 (Nat.zero_le _) ⟨rfl, fun _ => ⟨by decide, by decide⟩, fun _ _ => rfl⟩
    · rintro s _ i hi ⟨rfl, hs, hz⟩ ih
      have hil : i < l.length := by omega
      have h1 : (i : Int) < (l.length : Int) := by omega
      have h2 : (i : Int) < 6 := by omega
      have e0 : wrap64 ((i : Int) + 1) = ((i + 1 : Nat) : Int) := wrap_up hi (by omega)
      obtain ⟨c, hc⟩ : ∃ c, c = l[i] := ⟨_, rfl⟩
      have hrd : rd_L2 l (i : Int) = c := by rw [hc]; simp [rd_L2, hil]
      obtain ⟨hVC, h50⟩ := hW _ (List.getElem_mem hil)
      rw [← hc] at hVC h50
      have hst : ∀ j, j < c.length → 0 ≤ (rd_T160 c (j : Int)).f2 ∧ (rd_T160 c (j : Int)).f2 ≤ 999 := fun j hj => vok_stamp (hVC.1 j hj)
      have hpos := hVC.2.2.1
      have hsame : six (upd s i 0) = six s := by
        congr 1
        funext j
        unfold upd
        by_cases q : j = i
        · rw [if_pos q, q, hz i (Nat.le_refl _)]
        · rw [if_neg q]
      have inner : ∃ r, Ev (fun k => spec_IndexOf.l2 k (six (upd s i 0)) (i : Int) ((1 : Nat) : Int) l) r ∧ Ev (fun k => impl_IndexOf.l1 k ((six s).take i) c ((1 : Nat) : Int) l (l.length : Int) (i : Int) (i : Int) (i : Int) 0) r ∧ r.length ≤ 6 := by
        refine ev_both (σ := Int) (τ := Int) (fun t j k => spec_IndexOf.l2 k (six (upd s i t)) (i : Int) (j : Int) l) (fun t j k => impl_IndexOf.l1 k ((six s).take i) c (j : Int) l (l.length : Int) (i : Int) (i : Int) (i : Int) t) c.length (fun t u j => t = u ∧ 1 ≤ j ∧ 0 ≤ t ∧ t ≤ (rd_T160 c ((j - 1 : Nat) : Int)).f2) (fun r => r.length ≤ 6) ?_ ?_ 0 0 1 hpos ⟨rfl, Nat.le_refl _, Int.le_refl _, (hst 0 hpos).1⟩
        · rintro t _ j hj ⟨rfl, hj1, ht0, ht1⟩ ih2
          have g1 : (j : Int) < (c.length : Int) := by omega
          have e1 : wrap64 ((j : Int) + 1) = ((j + 1 : Nat) : Int) := wrap_up hj (by omega)
          have e2 : wrap64 ((j : Int) - 1) = ((j - 1 : Nat) : Int) := wrap_down (by omega) (by omega)
          have g2 : ((j - 1 : Nat) : Int) < (c.length : Int) := by omega
          have hj11 : j - 1 + 1 = j := by omega
          have hlt := (hVC.2.1 (j - 1) (by omega)).1
          rw [hj11] at hlt
          have hsj := hst j hj
          cases hch : ((((rd_T160 c (j : Int)).f1) == (-1)) != (((rd_T160 c ((j - 1 : Nat) : Int)).f1) == (-1)))
          · obtain ⟨r, es, et, hR⟩ := ih2 t t ⟨rfl, by omega, ht0, by rw [Nat.add_sub_cancel]; omega⟩
            refine ⟨r, Ev.succ ?_, Ev.succ ?_, hR⟩
            · simp only [spec_IndexOf.l2, hrd, h1, g1, g2, e1, e2, hch, Int.natCast_nonneg, if_true, Bool.false_eq_true, if_false]; exact es
            · simp only [impl_IndexOf.l1, g1, g2, e1, e2, hch, Int.natCast_nonneg, if_true, Bool.false_eq_true, if_false]; exact et
          · obtain ⟨r, es, et, hR⟩ := ih2 (rd_T160 c (j : Int)).f2 _ ⟨rfl, by omega, hsj.1, by rw [Nat.add_sub_cancel]; exact Int.le_refl _⟩
            have hb : ∀ q, 0 ≤ upd s i t q ∧ upd s i t q ≤ 999 := by
              intro q
              unfold upd
              split
              · omega
              · exact hs q
            have em := mark_six (upd s i t) hb i hi (rd_T160 c (j : Int)).f2 hsj
            have hmx : mx (upd s i t i) (rd_T160 c (j : Int)).f2 = (rd_T160 c (j : Int)).f2 := by
              have : upd s i t i = t := by simp [upd]
              rw [this]; unfold mx; omega
            rw [hmx, upd_upd] at em
            refine ⟨r, Ev.succ ?_, Ev.succ ?_, hR⟩
            · simp only [spec_IndexOf.l2, hrd, h1, g1, g2, e1, e2, hch, Int.natCast_nonneg, if_true]
              exact Ev.bind em es
            · simp only [impl_IndexOf.l1, g1, g2, e1, e2, hch, Int.natCast_nonneg, if_true]; exact et
        · rintro t _ ⟨rfl, _, ht0, ht1⟩
          have hlast := hst (c.length - 1) (by omega)
          obtain ⟨r, es, et, hR⟩ := ih (upd s i t) _ ⟨rfl, fun q => by
            unfold upd
            split
            · omega
            · exact hs q, fun q hq => by
            unfold upd
            rw [if_neg (by omega)]; exact hz q (by omega)⟩
          have hlen : ((six s).take i).length < 5864062014805 := by rw [List.length_take]; simp [six]; omega
          have htk : (six s).take i ++ [(⟨(i : Int), (i : Int), t⟩ : S77)] = (six (upd s i t)).take (i + 1) := by
            rcases (show i = 0 ∨ i = 1 ∨ i = 2 ∨ i = 3 ∨ i = 4 ∨ i = 5 by omega) with rfl | rfl | rfl | rfl | rfl | rfl <;> rfl
          refine ⟨r, Ev.succ ?_, Ev.succ ?_, hR⟩
          · simp only [spec_IndexOf.l2, hrd, h1, e0, Int.natCast_nonneg, Int.lt_irrefl, if_true, if_false]; exact es
          · simp only [impl_IndexOf.l1, hlen, htk, e0, Int.lt_irrefl, if_true, if_false]; exact et
      rw [hsame] at inner
      obtain ⟨r, es, et, hR⟩ := inner
      refine ⟨r, Ev.succ ?_, Ev.succ ?_, hR⟩
      · simp only [spec_IndexOf.l1, h2, if_true]; exact es
      · simp only [impl_IndexOf.l0, h1, hrd, Int.natCast_nonneg, if_true]; exact et
    · rintro s _ ⟨rfl, _, _⟩
      have h1 : ¬ ((6 : Nat) : Int) < (l.length : Int) := by omega
      refine ⟨six s, Ev.succ ?_, Ev.succ ?_, Nat.le_refl _⟩
      · simp only [spec_IndexOf.l1, show ¬ (((6 : Nat) : Int) < 6) from by decide, if_false]; exact Ev.now _
      · simp only [impl_IndexOf.l0, h1, if_false]; exact Ev.some rfl
  obtain ⟨r, m1, m2, m3⟩ := main
  refine ⟨r, ?_, ?_, m3⟩
  · unfold spec_IndexOf.f spec_NewIndex.f
    simp only [Option.bind_some]
    refine Ev.bind eS ?_
    simp only [if_true]
    exact split_six l r m1
  · unfold impl_IndexOf.f
    refine Ev.bind eI ?_
    simp only [if_true]; exact m2
theorem FnExactIndexOf : ∀ (x0_0 : List (List (S236))), (okRow (okRow PFnExactIndexOf.g236)) x0_0 → ∃ k, laws_FnExactIndexOf.f k x0_0 = some true := by
  intro l hl
  apply Ev.rounds
  unfold laws_FnExactIndexOf.f
  obtain ⟨r0, e0, _, hf⟩ := sz_VersionSS l 1048576 (by omega) (by omega) (by have := hl.1; simp only [maxLen] at this; omega) (fun x hx => by have := (hl.2 x hx).1; simp only [maxLen] at this; omega)
  have hsz : ∃ r, Ev (fun k => laws_szStore.f k l 1048576) r ∧ (0 ≤ r → l.length ≤ 1048576 ∧ ∀ e ∈ l, e.length ≤ 1048576) := by
    unfold laws_szStore.f
    by_cases c0 : r0 < 0
    · exact ⟨-1, Ev.bind e0 (by simp only [c0, if_true]; exact Ev.now _), fun h => absurd h (by omega)⟩
    · exact ⟨r0, Ev.bind e0 (by simp only [c0, if_false]; exact Ev.now _), fun h => hf h⟩
  obtain ⟨r, e, hf⟩ := hsz
  refine Ev.bind e ?_
  by_cases h : r < 0
  · simp only [h, if_true]; exact Ev.now _
  have hs := hf (by omega)
  simp only [h, if_false]
  have hs' : (l.map (List.map cvVersion)).length ≤ 1048576 ∧ ∀ e ∈ l.map (List.map cvVersion), e.length ≤ 1048576 := ⟨by simpa using hs.1, fun e he => by
    obtain ⟨x, hx, rfl⟩ := List.mem_map.1 he
    simpa using hs.2 x hx⟩
  have hto : Ev (fun k => laws_toStore.f k l) (l.map (List.map cvVersion)) := by
    unfold laws_toStore.f
    exact Ev.bind (ev_toVersionSS l hs) (Ev.now _)
  have heq : Ev (fun k => laws_eqStore.f k (l.map (List.map cvVersion)) (l.map (List.map cvVersion))) true := by
    unfold laws_eqStore.f
    refine Ev.bind (ev_eqVersionSS _ hs') ?_
    simp only [if_true]; exact Ev.now _
  obtain ⟨r, e1, e2, hr⟩ := both_IndexOf (l.map (List.map cvVersion)) hs'.1 hs'.2
  refine Ev.bind hto (Ev.bind e1 (Ev.bind hto (Ev.bind e2 (Ev.bind (ev_eqIndexNodeS r (by omega)) ?_))))
  simp only [if_true]
  refine Ev.bind hto (Ev.bind heq ?_)
  simp only [if_true]
  obtain ⟨m, em, hm0, hm1⟩ := ev_markVersionSS _ hs'.1 hs'.2
  have em' : Ev (fun k => laws_markStore.f k (l.map (List.map cvVersion)) 1) m := em
  refine Ev.bind em' ?_
  have hx : ¬ (m < 0) := by omega
  simp only [hx, if_false]
  refine Ev.bind (ev_eqIndexNodeS r (by omega)) ?_
  simp only [Bool.not_true]
  apply Ev.succ
  simp only [laws_FnExactIndexOf.j0, Bool.false_eq_true, if_false]
  refine Ev.bind (ev_markIndexNodeS r (by omega)) (Ev.bind (ev_heldIndexNodeS _ (by omega)) ?_)
  have hy : ¬ ((1 : Int) + 3 * (r.length : Int) < 0) := by omega
  simp only [hy, if_false, if_true]
  refine Ev.bind hto (Ev.bind e2 (Ev.bind (ev_eqIndexNodeS r (by omega)) ?_))
  simp only [if_true]
  refine Ev.bind (ev_heldIndexNodeS _ (by omega)) ?_
  simp only [hy, if_false, if_true]
  exact Ev.some rfl

end Go.Proofs.Ytpiaeinfneoioaa.Pure
