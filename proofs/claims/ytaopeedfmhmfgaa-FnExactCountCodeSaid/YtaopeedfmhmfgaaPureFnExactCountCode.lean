/- The plain statement of FnExactCountCode: the two counts keep step. Condition: the rows' lengths are at most maxLen. -/
import Derived.Test.YtaopeedfmhmfgaaGoodFnExactCountCode
import Derived.Test.YtaopeedfmhmfgaaPlain
namespace Go.Proofs.Ytaopeedfmhmfgaa.Pure
open Go.RowKit Go.Proofs.Ytaopeedfmhmfgaa.PFnExactCountCode Go.Proofs.YtaopeedfmhmfgaaW.PrintWords Go.Proofs.YtaopeedfmhmfgaaW.PrintLast Go.Proofs.Ytaopeedfmhmfgaa.OpenK Go.Proofs.Ytaopeedfmhmfgaa.Plain
set_option linter.unusedVariables false
set_option linter.unusedSimpArgs false

theorem sz_IntS (l : List Int) (a : Int) (h0 : 0 ≤ a) (h1 : a ≤ 1048576) (hl : l.length ≤ 9223372036854775807) : laws_szIntS.f l a = some (if a < l.length then -1 else a - l.length) := by
  unfold laws_szIntS.f
  rw [wrap_in (by omega) (by omega)]
  by_cases h : a < l.length
  · rw [if_pos (by omega), if_pos h]
  · rw [if_neg (by omega), if_neg h]

theorem szx_Int (l : List Int) (a : Int) (h0 : 0 ≤ a) (h1 : a ≤ 1048576) (hl : l.length ≤ 9223372036854775807) : ∃ r, Ev (fun _ => laws_szIntS.f l a) r ∧ r ≤ a ∧ (0 ≤ r → l.length ≤ 1048576) := by
  rw [sz_IntS l a h0 h1 hl]
  refine ⟨_, Ev.now _, ?_, ?_⟩ <;> split <;> omega

theorem ev_eqIntS (l : List Int) (hl : l.length ≤ 9223372036854775807) : Ev (fun k => laws_eqIntS.f k l l) true := by
  have h : Ev (fun k => laws_eqIntS.l0 k l l ((0 : Nat) : Int)) true := by
    refine ev_up (σ := Unit) (fun _ i k => laws_eqIntS.l0 k l l (i : Int)) l.length (fun _ _ => True) (fun _ _ => true) ?_ ?_ () 0 (Nat.zero_le _) trivial
    · intro ys i hi hI ih
      apply Ev.succ
      have h1 : (i : Int) < (l.length : Int) := by omega
      simp only [laws_eqIntS.l0, Option.bind_some, h1, Int.natCast_nonneg, if_true, wrap_up hi hl]
      exact ih () trivial
    · intro ys hI
      apply Ev.succ
      simp only [laws_eqIntS.l0, Int.lt_irrefl, if_false]
      exact Ev.now _
  unfold laws_eqIntS.f
  simp only [if_true]
  exact h

theorem ev_toIntS (l : List Int) (hl : l.length ≤ 1048576) : Ev (fun k => laws_toIntS.f k l) l := by
  have h : Ev (fun k => laws_toIntS.l0 k l (List.replicate l.length 0) ((0 : Nat) : Int)) l := by
    refine ev_up (σ := List Int) (fun ys i k => laws_toIntS.l0 k l ys (i : Int)) l.length (fun ys i => Filled l ys i) (fun _ _ => l) ?_ ?_ (List.replicate l.length 0) 0 (Nat.zero_le _) (Filled.start _ _ (by simp))
    · intro ys i hi hI ih
      apply Ev.succ
      have h1 : (i : Int) < (l.length : Int) := by omega
      have h2 : (i : Int) < (ys.length : Int) := by have := hI.1; omega
      simp only [laws_toIntS.l0, h1, h2, Int.natCast_nonneg, if_true, Int.toNat_natCast, wrap_up hi (by omega)]
      exact ih _ (hI.step hi (by simp [rd, hi]))
    · intro ys hI
      apply Ev.succ
      simp only [laws_toIntS.l0, Int.lt_irrefl, if_false]
      exact Ev.some (Filled.done hI)
  unfold laws_toIntS.f
  have h3 : ((l.length : Int) : Int).toNat ≤ 35184372088832 := by omega
  simp only [Int.natCast_nonneg, if_true, h3]
  simpa using h

def fit_Step (x : S80) : Prop := x.f1.length ≤ 1048576
def lim_Step (x : S80) : Prop := x.f1.length ≤ 9223372036854775807
def fitd_Step (x : S81) : Prop := x.f1.length ≤ 1048576
theorem sz_Step (x : S80) (a : Int) (h0 : 0 ≤ a) (h1 : a ≤ 1048576) (hg : lim_Step x) : ∃ r, Ev (fun k => laws_szStep.f x.f0 x.f1 a) r ∧ r ≤ a ∧ (0 ≤ r → fit_Step x) := by
  unfold lim_Step at hg
  unfold laws_szStep.f fit_Step
  obtain ⟨r0, e0, u0, f0⟩ := szx_Int x.f1 a h0 h1 hg
  by_cases c0 : r0 < 0
  · exact ⟨-1, Ev.bind e0 (by simp only [c0, if_true]; exact Ev.now _), by omega, fun h => absurd h (by omega)⟩
  exact ⟨r0, Ev.bind e0 (by simp only [c0, if_false]; exact Ev.now _), by omega, fun _ => f0 (by omega)⟩

theorem sz_StepS (l : List S80) (a : Int) (h0 : 0 ≤ a) (h1 : a ≤ 1048576) (hl : l.length ≤ 9223372036854775807) (hg : ∀ e ∈ l, lim_Step e) : ∃ r, Ev (fun k => laws_szStepS.f k l a) r ∧ r ≤ a ∧ (0 ≤ r → (l.length ≤ 1048576 ∧ ∀ e ∈ l, fit_Step e)) := by
  unfold laws_szStepS.f
  rw [wrap_in (by omega) (by omega)]
  by_cases h : a - (l.length : Int) < 0
  · simp only [h, if_true]; exact ⟨-1, Ev.now _, by omega, fun h => absurd h (by omega)⟩
  simp only [h, if_false]
  refine ev_to (σ := Int) (fun s i k => laws_szStepS.l0 k l s (i : Int)) l.length (fun s i => 0 ≤ s ∧ s ≤ a ∧ ∀ j (hj : j < l.length), j < i → fit_Step l[j]) (fun r => r ≤ a ∧ (0 ≤ r → (l.length ≤ 1048576 ∧ ∀ e ∈ l, fit_Step e))) ?_ ?_ (a - (l.length : Int)) 0 (Nat.zero_le _) ⟨by omega, by omega, fun j hj h => absurd h (by omega)⟩
  · intro s i hi ⟨hs, hsa, hI⟩ ih
    have h2 : (i : Int) < (l.length : Int) := by omega
    have hrd : rd_T80 l (i : Int) = l[i] := by simp [rd_T80, hi]
    obtain ⟨r, e, hr, hf⟩ := sz_Step (rd_T80 l (i : Int)) s hs (by omega) (hg _ (by rw [hrd]; exact List.getElem_mem hi))
    by_cases c : r < 0
    · refine ⟨-1, Ev.succ ?_, by omega, fun h => absurd h (by omega)⟩
      simp only [laws_szStepS.l0, h2, Int.natCast_nonneg, if_true]
      exact Ev.bind e (by simp only [c, if_true]; exact Ev.now _)
    · obtain ⟨r', e', h'⟩ := ih r ⟨by omega, by omega, fun j hj hji => if hh : j < i then hI j hj hh else by obtain rfl : j = i := by omega
                                                                                                             rw [← hrd]; exact hf (by omega)⟩
      refine ⟨r', Ev.succ ?_, h'⟩
      simp only [laws_szStepS.l0, h2, Int.natCast_nonneg, if_true]
      exact Ev.bind e (by simp only [c, if_false, wrap_up hi (by omega)]; exact e')
  · intro s ⟨hs, hsa, hI⟩
    refine ⟨s, Ev.succ ?_, hsa, fun _ => ⟨by omega, fun e he => ?_⟩⟩
    · simp only [laws_szStepS.l0, Int.lt_irrefl, if_false]; exact Ev.now _
    · obtain ⟨j, hj, rfl⟩ := List.getElem_of_mem he
      exact hI j hj hj

def cvStep (x : S80) : S81 := ⟨x.f0, x.f1⟩
theorem fitd_cvStep (x : S80) (h : fit_Step x) : fitd_Step (cvStep x) := by
  simpa [fit_Step, fitd_Step, cvStep] using h

theorem ev_toStep (x : S80) (h : fit_Step x) : Ev (fun k => laws_toStep.f k x.f0 x.f1) (x.f0, x.f1) := by
  unfold fit_Step at h
  unfold laws_toStep.f
  exact Ev.bind (ev_toIntS x.f1 h) (Ev.now _)

theorem ev_toStepS (l : List S80) (h : l.length ≤ 1048576 ∧ ∀ e ∈ l, fit_Step e) : Ev (fun k => laws_toStepS.f k l) (l.map cvStep) := by
  have hl := h.1
  have hh : Ev (fun k => laws_toStepS.l0 k l (List.replicate l.length z81) ((0 : Nat) : Int)) (l.map cvStep) := by
    refine ev_up (σ := List S81) (fun ys i k => laws_toStepS.l0 k l ys (i : Int)) l.length (fun ys i => Filled (l.map cvStep) ys i) (fun _ _ => l.map cvStep) ?_ ?_ (List.replicate l.length z81) 0 (Nat.zero_le _) (Filled.start _ _ (by simp))
    · intro ys i hi hI ih
      apply Ev.succ
      have h1 : (i : Int) < (l.length : Int) := by omega
      have h2 : (i : Int) < (ys.length : Int) := by have := hI.1; simp at this; omega
      have hrd : rd_T80 l (i : Int) = l[i] := by simp [rd_T80, hi]
      simp only [laws_toStepS.l0, h1, Int.natCast_nonneg, if_true]
      refine Ev.bind (ev_toStep _ (by rw [hrd]; exact h.2 _ (List.getElem_mem hi))) ?_
      simp only [h2, if_true, Int.toNat_natCast, wrap_up hi (by omega)]
      exact ih _ (hI.step (by simpa using hi) (by simp [cvStep, hrd]))
    · intro ys hI
      apply Ev.succ
      simp only [laws_toStepS.l0, Int.lt_irrefl, if_false]
      exact Ev.some (Filled.done (by simpa using hI))
  unfold laws_toStepS.f
  have h3 : ((l.length : Int) : Int).toNat ≤ 8796093022208 := by omega
  simp only [Int.natCast_nonneg, if_true, h3]
  simpa using hh
theorem fitds_cvStep (l : List S80) (h : l.length ≤ 1048576 ∧ ∀ e ∈ l, fit_Step e) : (l.map cvStep).length ≤ 1048576 ∧ ∀ e ∈ l.map cvStep, fitd_Step e := by
  refine ⟨by simpa using h.1, fun e he => ?_⟩
  obtain ⟨x, hx, rfl⟩ := List.mem_map.mp he
  exact fitd_cvStep x (h.2 x hx)

theorem ev_eqStep (x : S81) (h : fitd_Step x) : Ev (fun k => laws_eqStep.f k x.f0 x.f1 x.f0 x.f1) true := by
  unfold fitd_Step at h
  unfold laws_eqStep.f
  simp only [if_true]
  exact Ev.bind (ev_eqIntS x.f1 (by have := h; omega)) (by simp only [if_true]; exact Ev.now _)

theorem ev_eqStepS (l : List S81) (h : l.length ≤ 1048576 ∧ ∀ e ∈ l, fitd_Step e) : Ev (fun k => laws_eqStepS.f k l l) true := by
  have hl := h.1
  have hh : Ev (fun k => laws_eqStepS.l0 k l l ((0 : Nat) : Int)) true := by
    refine ev_up (σ := Unit) (fun _ i k => laws_eqStepS.l0 k l l (i : Int)) l.length (fun _ _ => True) (fun _ _ => true) ?_ ?_ () 0 (Nat.zero_le _) trivial
    · intro ys i hi hI ih
      apply Ev.succ
      have h1 : (i : Int) < (l.length : Int) := by omega
      have hrd : rd_T81 l (i : Int) = l[i] := by simp [rd_T81, hi]
      simp only [laws_eqStepS.l0, h1, Int.natCast_nonneg, if_true]
      refine Ev.bind (ev_eqStep _ (by rw [hrd]; exact h.2 _ (List.getElem_mem hi))) ?_
      simp only [if_true, wrap_up hi (by omega)]
      exact ih () trivial
    · intro ys hI
      apply Ev.succ
      simp only [laws_eqStepS.l0, Int.lt_irrefl, if_false]
      exact Ev.now _
  unfold laws_eqStepS.f
  simp only [if_true]
  exact hh


theorem both_CountCode (l : List S81) (a : Int) (hl : l.length ≤ 1048576) : ∃ r, Ev (fun k => spec_CountCode.f k l a) r ∧ Ev (fun k => impl_CountCode.f k l a) r ∧ True := by
  refine ev_both (σ := Int) (τ := Int) (fun s i k => spec_CountCode.l0 k l a s (i : Int)) (fun s i k => impl_CountCode.l0 k a s l (l.length : Int) (i : Int)) l.length (fun s t _ => s = t) (fun _ => True) ?_ ?_ 0 0 0 (Nat.zero_le _) rfl
  · rintro s _ i hi rfl ih
    have h1 : (i : Int) < (l.length : Int) := by omega
    have e0 := wrap_up hi (by omega)
    by_cases c : (rd_T81 l i).f0 = a
    · obtain ⟨r, hs, ht, _⟩ := ih (wrap64 (s + 1)) _ rfl
      refine ⟨r, Ev.succ ?_, Ev.succ ?_, trivial⟩ <;> (simp only [spec_CountCode.l0, impl_CountCode.l0, h1, c, e0, Int.natCast_nonneg, if_true]; assumption)
    · obtain ⟨r, hs, ht, _⟩ := ih s _ rfl
      refine ⟨r, Ev.succ ?_, Ev.succ ?_, trivial⟩ <;> (simp only [spec_CountCode.l0, impl_CountCode.l0, h1, c, e0, Int.natCast_nonneg, if_true, if_false]; assumption)
  · rintro s _ rfl
    refine ⟨s, Ev.succ ?_, Ev.succ ?_, trivial⟩ <;> (simp only [spec_CountCode.l0, impl_CountCode.l0, Int.lt_irrefl, if_false]; exact Ev.now _)
theorem FnExactCountCode : ∀ (x0 : List (S80)) (x1 : Int), (okRow PFnExactCountCode.g80) x0 → (okInt .i64) x1 → ∃ k, laws_FnExactCountCode.f k x0 x1 = some true := by
  intro l a hl _
  apply Ev.rounds
  unfold laws_FnExactCountCode.f
  obtain ⟨r, e, _, hf⟩ := sz_StepS l 1048576 (by omega) (by omega) (by have := hl.1; simp only [maxLen] at this; omega) (fun x hx => by have := (hl.2 x hx).2.1; simp only [maxLen] at this; unfold lim_Step; omega)
  refine Ev.bind e ?_
  by_cases h : r < 0
  · simp only [h, if_true]; exact Ev.now _
  have hs := hf (by omega)
  simp only [h, if_false]
  obtain ⟨r, e1, e2, _⟩ := both_CountCode (l.map cvStep) a (by simpa using hs.1)
  refine Ev.bind (ev_toStepS l hs) (Ev.bind e1 (Ev.bind (ev_toStepS l hs) (Ev.bind e2 ?_)))
  simp only [if_true]
  refine Ev.bind (ev_toStepS l hs) (Ev.bind (ev_eqStepS _ (fitds_cvStep l hs)) ?_)
  exact Ev.some rfl

end Go.Proofs.Ytaopeedfmhmfgaa.Pure
