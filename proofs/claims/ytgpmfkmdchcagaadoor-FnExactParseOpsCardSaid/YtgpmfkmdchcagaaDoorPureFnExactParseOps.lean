/- The plain statement of FnExactParseOps: both parsers read the same operations, and marks in the result are held. No condition (a text longer than 2^20 bytes is passed over). -/
import Derived.Test.YtgpmfkmdchcagaaDoorPFnExactParseOpsx12
import Derived.Test.YtgpmfkmdchcagaaDoorPlainV
import Derived.Test.YtgpmfkmdchcagaaDoorChVA
import Derived.Test.YtgpmfkmdchcagaaDoorChV0
import Derived.Test.YtgpmfkmdchcagaaDoorChV1
import Derived.Test.YtgpmfkmdchcagaaDoorChV2
import Derived.Test.YtgpmfkmdchcagaaDoorChV3
import Derived.Test.YtgpmfkmdchcagaaDoorChV4
import Derived.Test.YtgpmfkmdchcagaaDoorChV5
namespace Go.Proofs.YtgpmfkmdchcagaaDoor.Pure
open Go.RowKit Go.Proofs.YtgpmfkmdchcagaaDoor.PFnExactParseOps Go.Proofs.YtgpmfkmdchcagaaDoorW.PrintWords Go.Proofs.YtgpmfkmdchcagaaDoorW.PrintLast Go.Proofs.YtgpmfkmdchcagaaDoor.Plain
set_option linter.unusedVariables false
set_option linter.unusedSimpArgs false

theorem ev_eqOpS (l : List S36) (hl : l.length ≤ 9223372036854775807) : Ev (fun k => laws_eqOpS.f k l l) true := by
  have h : Ev (fun k => laws_eqOpS.l0 k l l ((0 : Nat) : Int)) true := by
    refine ev_up (σ := Unit) (fun _ i k => laws_eqOpS.l0 k l l (i : Int)) l.length (fun _ _ => True) (fun _ _ => true) ?_ ?_ () 0 (Nat.zero_le _) trivial
    · intro ys i hi hI ih
      apply Ev.succ
      have h1 : (i : Int) < (l.length : Int) := by omega
      simp only [laws_eqOpS.l0, laws_eqOp.f, Option.bind_some, h1, Int.natCast_nonneg, if_true, wrap_up hi hl]
      exact ih () trivial
    · intro ys hI
      apply Ev.succ
      simp only [laws_eqOpS.l0, Int.lt_irrefl, if_false]
      exact Ev.now _
  unfold laws_eqOpS.f
  simp only [if_true]
  exact h

def mkOp : Int → S36 := (fun a : Int => (⟨a, a + 1, a + 2, a + 3, a + 4, a + 5⟩ : S36))
theorem ev_markOpS (l : List S36) (hl : l.length ≤ 4194304) : Ev (fun k => laws_markOpS.f k l 1) (1 + 6 * (l.length : Int), markL mkOp 6 l.length 1) := by
  have h : Ev (fun k => laws_markOpS.l0 k l 1 ((0 : Nat) : Int)) (1 + 6 * (l.length : Int), markL mkOp 6 l.length 1) := by
    refine ev_up (σ := List S36 × Int) (fun s i k => laws_markOpS.l0 k s.1 s.2 (i : Int)) l.length (fun s i => Filled (markL mkOp 6 l.length 1) s.1 i ∧ s.2 = 1 + 6 * (i : Int)) (fun _ _ => (1 + 6 * (l.length : Int), markL mkOp 6 l.length 1)) ?_ ?_ (l, 1) 0 (Nat.zero_le _) ⟨Filled.start _ _ (by simp [markL_length]), by simp⟩
    · rintro ⟨ys, a⟩ i hi ⟨hI, ha⟩ ih
      apply Ev.succ
      dsimp only at ha hI ⊢
      have hly : ys.length = l.length := by have := hI.1; simpa [markL_length] using this
      have h1 : (i : Int) < (ys.length : Int) := by omega
      have hiy : i < ys.length := by omega
      have w0 : wrap64 (a + 1) = a + 1 := wrap_in (by omega) (by omega)
      have w1 : wrap64 (a + 2) = a + 2 := wrap_in (by omega) (by omega)
      have w2 : wrap64 (a + 3) = a + 3 := wrap_in (by omega) (by omega)
      have w3 : wrap64 (a + 4) = a + 4 := wrap_in (by omega) (by omega)
      have w4 : wrap64 (a + 5) = a + 5 := wrap_in (by omega) (by omega)
      have w5 : wrap64 (a + 6) = a + 6 := wrap_in (by omega) (by omega)
      have hr := ih (ys.set i (mkOp a), a + 6) ⟨hI.step (by simpa [markL_length] using hi) (by rw [markL_get, ha]; rfl), by dsimp only; omega⟩
      dsimp only at hr
      simp only [laws_markOpS.l0, Option.bind_some, h1, Int.natCast_nonneg, if_true, Int.toNat_natCast, wrap_up hi (by omega), w0, w1, w2, w3, w4, w5, show a + 1 + 1 = a + 2 from by omega, show a + 2 + 1 = a + 3 from by omega, show a + 3 + 1 = a + 4 from by omega, show a + 4 + 1 = a + 5 from by omega, show a + 5 + 1 = a + 6 from by omega]
      simpa [mkOp, rd_T36, hiy] using hr
    · rintro ⟨ys, a⟩ ⟨hI, ha⟩
      apply Ev.succ
      dsimp only at ha hI ⊢
      have hly : ys.length = l.length := by have := hI.1; simpa [markL_length] using this
      have h1 : ¬ ((l.length : Int) < (ys.length : Int)) := by omega
      simp only [laws_markOpS.l0, h1, if_false]
      have hd : ys = markL mkOp 6 l.length 1 := Filled.done (by rw [markL_length]; exact hI)
      exact Ev.some (by rw [ha, hd])
  exact h
theorem ev_heldOpS (n : Nat) (hn : n ≤ 4194304) : Ev (fun k => laws_heldOpS.f k (markL mkOp 6 n 1) 1) (1 + 6 * (n : Int)) := by
  have h : Ev (fun k => laws_heldOpS.l0 k (markL mkOp 6 n 1) 1 ((0 : Nat) : Int)) (1 + 6 * (n : Int)) := by
    refine ev_up (σ := Int) (fun a i k => laws_heldOpS.l0 k (markL mkOp 6 n 1) a (i : Int)) n (fun a i => a = 1 + 6 * (i : Int)) (fun _ _ => 1 + 6 * (n : Int)) ?_ ?_ 1 0 (Nat.zero_le _) (by simp)
    · intro a i hi ha ih
      apply Ev.succ
      have h1 : (i : Int) < ((markL mkOp 6 n 1).length : Int) := by rw [markL_length]; omega
      have hiy : i < (markL mkOp 6 n 1).length := by rw [markL_length]; omega
      have hg : (markL mkOp 6 n 1)[i] = mkOp a := by rw [markL_get, ha]; rfl
      have w0 : wrap64 (a + 1) = a + 1 := wrap_in (by omega) (by omega)
      have w1 : wrap64 (a + 2) = a + 2 := wrap_in (by omega) (by omega)
      have w2 : wrap64 (a + 3) = a + 3 := wrap_in (by omega) (by omega)
      have w3 : wrap64 (a + 4) = a + 4 := wrap_in (by omega) (by omega)
      have w4 : wrap64 (a + 5) = a + 5 := wrap_in (by omega) (by omega)
      have w5 : wrap64 (a + 6) = a + 6 := wrap_in (by omega) (by omega)
      have hr := ih (a + 6) (by omega)
      have hrd : rd_T36 (markL mkOp 6 n 1) (i : Int) = mkOp a := by rw [← hg]; simp [rd_T36, hiy]
      simp only [laws_heldOpS.l0, h1, Int.natCast_nonneg, if_true, hrd, wrap_up hi (by omega), w0, w1, w2, w3, w4, w5, show a + 1 + 1 = a + 2 from by omega, show a + 2 + 1 = a + 3 from by omega, show a + 3 + 1 = a + 4 from by omega, show a + 4 + 1 = a + 5 from by omega, show a + 5 + 1 = a + 6 from by omega]
      simpa [mkOp] using hr
    · intro a ha
      apply Ev.succ
      have h1 : ¬ ((n : Int) < ((markL mkOp 6 n 1).length : Int)) := by rw [markL_length]; omega
      simp only [laws_heldOpS.l0, h1, if_false]
      exact Ev.some ha
  exact h


theorem l1In_eq (a b c : Int) : spec_l1In.f a b c = some (decide (b ≤ a) && decide (a ≤ c)) := by
  by_cases h : b ≤ a <;> simp [spec_l1In.f, h]
theorem in_eq (a b c : Int) : impl_in.f a b c = some (decide (b ≤ a) && decide (a ≤ c)) := by
  by_cases h : b ≤ a <;> simp [impl_in.f, h]
set_option maxHeartbeats 8000000 in
theorem both_IsValidOp3 (a0 a1 a2 a3 a4 a5 : Int) : ∃ b, spec_IsValidOp.f 3 a0 a1 a2 a3 a4 a5 = some b ∧ impl_IsValidOp.f 3 a0 a1 a2 a3 a4 a5 = some b ∧ (b = true → (1 ≤ a1 ∧ a1 ≤ 9 ∧ 1 ≤ a0 ∧ a0 ≤ 6 ∧ (a0 = 1 → 1 ≤ a2 ∧ a2 ≤ 4) ∧ (a0 = 2 ∨ a0 = 3 ∨ a0 = 4 → 0 ≤ a3 ∧ a3 ≤ 5) ∧ (a0 = 3 → -1 ≤ a5 ∧ a5 ≤ 99) ∧ (a0 = 4 → a3 ≤ a4 ∧ a4 ≤ 5) ∧ (a0 = 1 ∨ a2 = 0) ∧ (a0 = 2 ∨ a0 = 3 ∨ a0 = 4 ∨ a3 = 0) ∧ (a0 = 4 ∨ a4 = 0) ∧ (a0 = 3 ∨ a5 = 0))) := by
  by_cases c1 : a0 = 1
  · subst c1
    by_cases h3 : a3 = 0 <;> by_cases h4 : a4 = 0 <;> by_cases h5 : a5 = 0 <;> by_cases h1 : 1 ≤ a1 <;> by_cases h1' : a1 ≤ 9 <;> by_cases h2 : 1 ≤ a2 <;> by_cases h2' : a2 ≤ 4 <;>
      simp [spec_IsValidOp.f, impl_IsValidOp.f, spec_IsValidOp.j1, spec_IsValidOp.j2, impl_IsValidOp.j0, impl_isID.f, impl_isScheme.f, l1In_eq, in_eq, h3, h4, h5, h1, h1', h2, h2', eq_comm (a := (0 : Int))]
  by_cases c2 : a0 = 2
  · subst c2
    by_cases h3 : a2 = 0 <;> by_cases h4 : a4 = 0 <;> by_cases h5 : a5 = 0 <;> by_cases h1 : 1 ≤ a1 <;> by_cases h1' : a1 ≤ 9 <;> by_cases h2 : 0 ≤ a3 <;> by_cases h2' : a3 ≤ 5 <;>
      simp [spec_IsValidOp.f, impl_IsValidOp.f, spec_IsValidOp.j1, spec_IsValidOp.j2, impl_IsValidOp.j0, impl_isID.f, impl_isKey.f, l1In_eq, in_eq, h3, h4, h5, h1, h1', h2, h2', eq_comm (a := (0 : Int))]
  by_cases c3 : a0 = 3
  · subst c3
    by_cases h3 : a2 = 0 <;> by_cases h4 : a4 = 0 <;> by_cases h1 : 1 ≤ a1 <;> by_cases h1' : a1 ≤ 9 <;> by_cases h2 : 0 ≤ a3 <;> by_cases h2' : a3 ≤ 5 <;> by_cases h6 : -1 ≤ a5 <;> by_cases h6' : a5 ≤ 99 <;>
      simp [spec_IsValidOp.f, impl_IsValidOp.f, spec_IsValidOp.j1, spec_IsValidOp.j2, impl_IsValidOp.j0, impl_isID.f, impl_isKey.f, impl_isValue.f, l1In_eq, in_eq, h3, h4, h1, h1', h2, h2', h6, h6', eq_comm (a := (0 : Int))]
  by_cases c4 : a0 = 4
  · subst c4
    by_cases h3 : a2 = 0 <;> by_cases h5 : a5 = 0 <;> by_cases h1 : 1 ≤ a1 <;> by_cases h1' : a1 ≤ 9 <;> by_cases h2 : 0 ≤ a3 <;> by_cases h2' : a3 ≤ 5 <;> by_cases h6 : a3 ≤ a4 <;> by_cases h6' : a4 ≤ 5 <;>
      simp [spec_IsValidOp.f, impl_IsValidOp.f, spec_IsValidOp.j1, spec_IsValidOp.j2, impl_IsValidOp.j0, impl_isID.f, impl_isKey.f, l1In_eq, in_eq, h3, h5, h1, h1', h2, h2', h6, h6', eq_comm (a := (0 : Int))]
  by_cases c5 : a0 = 5
  · subst c5
    by_cases h2 : a2 = 0 <;> by_cases h3 : a3 = 0 <;> by_cases h4 : a4 = 0 <;> by_cases h5 : a5 = 0 <;> by_cases h1 : 1 ≤ a1 <;> by_cases h1' : a1 ≤ 9 <;>
      simp [spec_IsValidOp.f, impl_IsValidOp.f, spec_IsValidOp.j1, spec_IsValidOp.j2, spec_IsValidOp.j0, impl_IsValidOp.j0, impl_isID.f, impl_isKey.f, l1In_eq, in_eq, h2, h3, h4, h5, h1, h1', eq_comm (a := (0 : Int))]
  by_cases c6 : a0 = 6
  · subst c6
    by_cases h2 : a2 = 0 <;> by_cases h3 : a3 = 0 <;> by_cases h4 : a4 = 0 <;> by_cases h5 : a5 = 0 <;> by_cases h1 : 1 ≤ a1 <;> by_cases h1' : a1 ≤ 9 <;>
      simp [spec_IsValidOp.f, impl_IsValidOp.f, spec_IsValidOp.j1, spec_IsValidOp.j2, spec_IsValidOp.j0, impl_IsValidOp.j0, impl_isID.f, impl_isKey.f, l1In_eq, in_eq, h2, h3, h4, h5, h1, h1', eq_comm (a := (0 : Int))]
  · have hk : (decide (1 ≤ a0) && decide (a0 ≤ 6)) = false := by
      by_cases d1 : 1 ≤ a0 <;> by_cases d2 : a0 ≤ 6 <;> simp [d1, d2] <;> omega
    simp [spec_IsValidOp.f, impl_IsValidOp.f, spec_IsValidOp.j0, impl_IsValidOp.j0, in_eq, c1, c2, c3, c4, c5, c6, hk]
theorem both_IsValidOp (a0 a1 a2 a3 a4 a5 : Int) : ∃ b, Ev (fun k => spec_IsValidOp.f k a0 a1 a2 a3 a4 a5) b ∧ Ev (fun k => impl_IsValidOp.f k a0 a1 a2 a3 a4 a5) b ∧ (b = true → (1 ≤ a1 ∧ a1 ≤ 9 ∧ 1 ≤ a0 ∧ a0 ≤ 6 ∧ (a0 = 1 → 1 ≤ a2 ∧ a2 ≤ 4) ∧ (a0 = 2 ∨ a0 = 3 ∨ a0 = 4 → 0 ≤ a3 ∧ a3 ≤ 5) ∧ (a0 = 3 → -1 ≤ a5 ∧ a5 ≤ 99) ∧ (a0 = 4 → a3 ≤ a4 ∧ a4 ≤ 5) ∧ (a0 = 1 ∨ a2 = 0) ∧ (a0 = 2 ∨ a0 = 3 ∨ a0 = 4 ∨ a3 = 0) ∧ (a0 = 4 ∨ a4 = 0) ∧ (a0 = 3 ∨ a5 = 0))) := by
  obtain ⟨b, h1, h2, h3⟩ := both_IsValidOp3 a0 a1 a2 a3 a4 a5
  exact ⟨b, Ev.of (spec_IsValidOp.mono _ _ _ _ _ _) h1, Ev.of (impl_IsValidOp.mono _ _ _ _ _ _) h2, h3⟩
theorem fi (n : Int) (h0 : 0 ≤ n) (h1 : n < 100) : ∃ t : ByteArray, Ev (fun k => spec_FormatInt.f k n) t ∧ impl_FormatInt.f n = some t ∧ t.size ≤ 20 := by
  obtain ⟨m, rfl⟩ := Int.eq_ofNat_of_zero_le h0
  have hm : m < 100 := by omega
  have key : ∀ i : Fin 100, spec_FormatInt.f 4 ((i.val : Nat) : Int) = impl_FormatInt.f ((i.val : Nat) : Int) ∧ ((impl_FormatInt.f ((i.val : Nat) : Int)).elim false (fun t => decide (t.size ≤ 20))) = true := by decide +kernel
  obtain ⟨k1, k2⟩ := key ⟨m, hm⟩
  dsimp only at k1 k2
  cases hx : impl_FormatInt.f (m : Int) with
  | none => rw [hx] at k2; exact absurd k2 (by decide)
  | some t => rw [hx] at k1 k2; exact ⟨t, Ev.of (spec_FormatInt.mono _) k1, rfl, of_decide_eq_true k2⟩
theorem fv (n : Int) (h0 : -1 ≤ n) (h1 : n < 100) : ∃ t : ByteArray, Ev (fun k => spec_l3Value.f k n) t ∧ impl_formatValue.f n = some t ∧ t.size ≤ 20 := by
  by_cases h : n = -1
  · subst h
    refine ⟨⟨#[45]⟩, ?_, rfl, by decide⟩
    unfold spec_l3Value.f
    simp only [if_true]; exact Ev.now _
  · obtain ⟨t, e, i, hs⟩ := fi n (by omega) h1
    refine ⟨t, ?_, ?_, hs⟩
    · unfold spec_l3Value.f
      simp only [if_neg h]
      exact Ev.bind e (Ev.now _)
    · unfold impl_formatValue.f
      rw [if_neg h, i]; rfl
theorem fs (n : Int) (h0 : 1 ≤ n) (h1 : n ≤ 4) : ∃ t : ByteArray, spec_SchemeName.f n = some t ∧ impl_SchemeName.f n = some t ∧ t.size ≤ 20 := by
  have key : ∀ i : Fin 5, 1 ≤ i.val → spec_SchemeName.f ((i.val : Nat) : Int) = impl_SchemeName.f ((i.val : Nat) : Int) ∧ ((impl_SchemeName.f ((i.val : Nat) : Int)).elim false (fun t => decide (t.size ≤ 20))) = true := by decide +kernel
  obtain ⟨m, rfl⟩ := Int.eq_ofNat_of_zero_le (show 0 ≤ n by omega)
  have hm : m < 5 := by omega
  obtain ⟨k1, k2⟩ := key ⟨m, hm⟩ (by dsimp only; omega)
  dsimp only at k1 k2
  cases hx : impl_SchemeName.f (m : Int) with
  | none => rw [hx] at k2; exact absurd k2 (by decide)
  | some t => rw [hx] at k1 k2; exact ⟨t, k1, rfl, of_decide_eq_true k2⟩
theorem ex0 : (⟨#[98, 114, 119, 115, 99, 97]⟩ : ByteArray).extract 0 1 = ⟨#[98]⟩ := rfl
theorem ex1 : (⟨#[98, 114, 119, 115, 99, 97]⟩ : ByteArray).extract 1 2 = ⟨#[114]⟩ := rfl
theorem ex2 : (⟨#[98, 114, 119, 115, 99, 97]⟩ : ByteArray).extract 2 3 = ⟨#[119]⟩ := rfl
theorem ex3 : (⟨#[98, 114, 119, 115, 99, 97]⟩ : ByteArray).extract 3 4 = ⟨#[115]⟩ := rfl
theorem ex4 : (⟨#[98, 114, 119, 115, 99, 97]⟩ : ByteArray).extract 4 5 = ⟨#[99]⟩ := rfl
theorem ex5 : (⟨#[98, 114, 119, 115, 99, 97]⟩ : ByteArray).extract 5 6 = ⟨#[97]⟩ := rfl
theorem s1 (b : UInt8) : (⟨#[b]⟩ : ByteArray).size = 1 := rfl
theorem wrap1 (n : Int) (h : 1 ≤ n) (h' : n ≤ 6) : wrap64 (n - 1) = n - 1 := wrap_in (by omega) (by omega)
theorem wq1 : wrap64 ((1 : Int) - 1) = 0 := by rw [wrap_in (by omega) (by omega)]; rfl
theorem wq2 : wrap64 ((2 : Int) - 1) = 1 := by rw [wrap_in (by omega) (by omega)]; rfl
theorem wq3 : wrap64 ((3 : Int) - 1) = 2 := by rw [wrap_in (by omega) (by omega)]; rfl
theorem wq4 : wrap64 ((4 : Int) - 1) = 3 := by rw [wrap_in (by omega) (by omega)]; rfl
theorem wq5 : wrap64 ((5 : Int) - 1) = 4 := by rw [wrap_in (by omega) (by omega)]; rfl
theorem wq6 : wrap64 ((6 : Int) - 1) = 5 := by rw [wrap_in (by omega) (by omega)]; rfl
set_option maxHeartbeats 8000000 in
theorem both_FormatOp (a0 a1 a2 a3 a4 a5 : Int) : ∃ r : ByteArray, Ev (fun k => spec_FormatOp.f k a0 a1 a2 a3 a4 a5) r ∧ Ev (fun k => impl_FormatOp.f k a0 a1 a2 a3 a4 a5) r := by
  obtain ⟨b, s1', i1, hb⟩ := both_IsValidOp a0 a1 a2 a3 a4 a5
  cases b
  · refine ⟨⟨#[]⟩, ?_, ?_⟩
    · unfold spec_FormatOp.f
      refine Ev.bind s1' ?_
      simp only [Bool.false_eq_true, if_false]; exact Ev.now _
    · unfold impl_FormatOp.f
      refine Ev.bind i1 ?_
      simp only [Bool.false_eq_true, if_false]; exact Ev.now _
  obtain ⟨b1, b1', b0, b0', b2, b3, b5, b4x⟩ := hb rfl
  have b4 : a0 = 4 → a3 ≤ a4 ∧ a4 ≤ 5 := by first | exact b4x | exact b4x.1
  obtain ⟨t, et, it, ht⟩ := fi a1 (by omega) (by omega)
  have main : ∀ r, Ev (fun k => spec_FormatOp.f k a0 a1 a2 a3 a4 a5) r → impl_formatOp.f a0 a1 a2 a3 a4 a5 = some r → ∃ r : ByteArray, Ev (fun k => spec_FormatOp.f k a0 a1 a2 a3 a4 a5) r ∧ Ev (fun k => impl_FormatOp.f k a0 a1 a2 a3 a4 a5) r := by
    intro r h1 h2
    refine ⟨r, h1, ?_⟩
    unfold impl_FormatOp.f
    refine Ev.bind i1 ?_
    simp only [if_true, h2, Option.bind_some]; exact Ev.now _
  obtain rfl | rfl | rfl | rfl | rfl | rfl : a0 = 1 ∨ a0 = 2 ∨ a0 = 3 ∨ a0 = 4 ∨ a0 = 5 ∨ a0 = 6 := by omega
  · obtain ⟨u, eu, iu, hu⟩ := fs a2 (b2 rfl).1 (b2 rfl).2
    refine main ((((⟨#[98]⟩ : ByteArray) ++ t) ++ (⟨#[32]⟩ : ByteArray)) ++ u) ?_ ?_
    · unfold spec_FormatOp.f
      refine Ev.bind s1' ?_
      simp only [if_true]
      refine Ev.bind et ?_
      simp (disch := omega) only [if_true, eu, Option.bind_some, ByteArray.size_append, s1, if_pos]
      exact Ev.now _
    · unfold impl_formatOp.f
      simp (disch := omega) only [wq1, it, iu, Option.bind_some, show ((0 : Int)).toNat = 0 from rfl, show ((1 : Int)).toNat = 1 from rfl, ex0, ByteArray.size_append, s1, if_pos]
      exact if_pos trivial
  · obtain ⟨u, eu, iu, hu⟩ := fi a3 (b3 (by omega)).1 (by have := b3 (by omega); omega)
    refine main ((((⟨#[114]⟩ : ByteArray) ++ t) ++ (⟨#[32]⟩ : ByteArray)) ++ u) ?_ ?_
    · unfold spec_FormatOp.f
      refine Ev.bind s1' ?_
      simp only [if_true]
      refine Ev.bind et ?_
      simp (disch := omega) only [if_neg, if_pos, ByteArray.size_append, s1]
      refine Ev.bind eu ?_
      simp (disch := omega) only [ByteArray.size_append, s1, if_pos]
      exact Ev.now _
    · unfold impl_formatOp.f
      simp (disch := omega) only [wq2, it, iu, Option.bind_some, show ((1 : Int)).toNat = 1 from rfl, show ((2 : Int)).toNat = 2 from rfl, ex1, ByteArray.size_append, s1, if_pos, if_neg]
      exact if_pos trivial
  · obtain ⟨u, eu, iu, hu⟩ := fi a3 (b3 (by omega)).1 (by have := b3 (by omega); omega)
    obtain ⟨v, ev, iv, hv⟩ := fv a5 (b5 rfl).1 (by have := b5 rfl; omega)
    refine main ((((((⟨#[119]⟩ : ByteArray) ++ t) ++ (⟨#[32]⟩ : ByteArray)) ++ u) ++ (⟨#[32]⟩ : ByteArray)) ++ v) ?_ ?_
    · unfold spec_FormatOp.f
      refine Ev.bind s1' ?_
      simp only [if_true]
      refine Ev.bind et ?_
      simp (disch := omega) only [if_neg, if_pos, ByteArray.size_append, s1]
      refine Ev.bind eu ?_
      simp (disch := omega) only [ByteArray.size_append, s1, if_pos]
      refine Ev.bind ev ?_
      simp (disch := omega) only [ByteArray.size_append, s1, if_pos]
      exact Ev.now _
    · unfold impl_formatOp.f
      simp (disch := omega) only [wq3, it, iu, iv, Option.bind_some, show ((2 : Int)).toNat = 2 from rfl, show ((3 : Int)).toNat = 3 from rfl, ex2, ByteArray.size_append, s1, if_pos, if_neg]
      exact if_pos trivial
  · obtain ⟨u, eu, iu, hu⟩ := fi a3 (b3 (by omega)).1 (by have := b3 (by omega); omega)
    obtain ⟨v, ev, iv, hv⟩ := fi a4 (by have := b3 (by omega); have := b4 rfl; omega) (by have := b4 rfl; omega)
    refine main ((((((⟨#[115]⟩ : ByteArray) ++ t) ++ (⟨#[32]⟩ : ByteArray)) ++ u) ++ (⟨#[32]⟩ : ByteArray)) ++ v) ?_ ?_
    · unfold spec_FormatOp.f
      refine Ev.bind s1' ?_
      simp only [if_true]
      refine Ev.bind et ?_
      simp (disch := omega) only [if_neg, if_pos, ByteArray.size_append, s1]
      refine Ev.bind eu ?_
      simp (disch := omega) only [ByteArray.size_append, s1, if_pos]
      refine Ev.bind ev ?_
      simp (disch := omega) only [ByteArray.size_append, s1, if_pos]
      exact Ev.now _
    · unfold impl_formatOp.f
      simp (disch := omega) only [wq4, it, iu, iv, Option.bind_some, show ((3 : Int)).toNat = 3 from rfl, show ((4 : Int)).toNat = 4 from rfl, ex3, ByteArray.size_append, s1, if_pos, if_neg]
      exact if_pos trivial
  · refine main ((⟨#[99]⟩ : ByteArray) ++ t) ?_ ?_
    · unfold spec_FormatOp.f
      refine Ev.bind s1' ?_
      simp only [if_true]
      refine Ev.bind et ?_
      simp (disch := omega) only [if_neg, if_pos]
      exact Ev.now _
    · unfold impl_formatOp.f
      simp (disch := omega) only [wq5, it, Option.bind_some, show ((4 : Int)).toNat = 4 from rfl, show ((5 : Int)).toNat = 5 from rfl, ex4, ByteArray.size_append, s1, if_pos, if_neg]
  · refine main ((⟨#[97]⟩ : ByteArray) ++ t) ?_ ?_
    · unfold spec_FormatOp.f
      refine Ev.bind s1' ?_
      simp only [if_true]
      refine Ev.bind et ?_
      simp (disch := omega) only [if_neg, if_pos]
      exact Ev.now _
    · unfold impl_formatOp.f
      simp (disch := omega) only [wq6, it, Option.bind_some, show ((5 : Int)).toNat = 5 from rfl, show ((6 : Int)).toNat = 6 from rfl, ex5, ByteArray.size_append, s1, if_pos, if_neg]
def bad7 : O7 := (0, 0, 0, 0, 0, 0, false)
/-- What a parser may answer: nothing, or an operation whose text is the one that was read. -/
def Good7 (s : ByteArray) (r : O7) : Prop := r = bad7 ∨ ∃ (a0 a1 a2 a3 a4 a5 : Int) (t : ByteArray), r = (a0, a1, a2, a3, a4, a5, true) ∧ Ev (fun k => spec_FormatOp.f k a0 a1 a2 a3 a4 a5) t ∧ Ev (fun k => impl_FormatOp.f k a0 a1 a2 a3 a4 a5) t ∧ t.toList = s.toList
theorem tail_spec (s : ByteArray) (a0 a1 a2 a3 a4 a5 : Int) : ∃ r : O7, Ev (fun k => (spec_FormatOp.f k a0 a1 a2 a3 a4 a5).bind fun t => if t.toList = s.toList then some (a0, a1, a2, a3, a4, a5, true) else some (0, 0, 0, 0, 0, 0, false)) r ∧ Good7 s r := by
  obtain ⟨t, h1, h2⟩ := both_FormatOp a0 a1 a2 a3 a4 a5
  by_cases c : t.toList = s.toList
  · exact ⟨_, Ev.bind h1 (by simp only [c, if_true]; exact Ev.now _), .inr ⟨_, _, _, _, _, _, t, rfl, h1, h2, c⟩⟩
  · exact ⟨_, Ev.bind h1 (by simp only [c, if_false]; exact Ev.now _), .inl rfl⟩
theorem tail_impl (s : ByteArray) (a0 a1 a2 a3 a4 a5 : Int) : ∃ r : O7, Ev (fun k => (impl_FormatOp.f k a0 a1 a2 a3 a4 a5).bind fun t => if t.toList = s.toList then some (a0, a1, a2, a3, a4, a5, true) else some (0, 0, 0, 0, 0, 0, false)) r ∧ Good7 s r := by
  obtain ⟨t, h1, h2⟩ := both_FormatOp a0 a1 a2 a3 a4 a5
  by_cases c : t.toList = s.toList
  · exact ⟨_, Ev.bind h2 (by simp only [c, if_true]; exact Ev.now _), .inr ⟨_, _, _, _, _, _, t, rfl, h1, h2, c⟩⟩
  · exact ⟨_, Ev.bind h2 (by simp only [c, if_false]; exact Ev.now _), .inl rfl⟩
theorem now7 (s : ByteArray) : ∃ r : O7, Ev (fun _ => some ((0, 0, 0, 0, 0, 0, false) : O7)) r ∧ Good7 s r := ⟨bad7, Ev.now _, .inl rfl⟩
-- the program's parser
theorem split_le (sep : ByteArray) : ∀ (k : Nat) (s : ByteArray), ∀ x ∈ Lib.splitB sep 0 k s, x.size ≤ s.size := by
  intro k
  induction k with
  | zero => intro s x hx; rw [Lib.splitB_zero] at hx; rw [List.mem_singleton.mp hx]; exact Nat.le_refl _
  | succ k ih =>
    intro s x hx
    unfold Lib.splitB at hx
    split at hx
    · rw [List.mem_singleton.mp hx]; exact Nat.le_refl _
    · rcases List.mem_cons.mp hx with rfl | hx
      · simp only [ByteArray.size_extract]; omega
      · have := ih _ x hx
        simp only [ByteArray.size_extract] at this; omega
theorem pint_total (s : ByteArray) (h : s.size ≤ 281474976710656) : ∃ r, impl_ParseInt.f s = some r := by
  unfold impl_ParseInt.f
  rw [if_pos h]
  split
  · split
    · exact ⟨_, rfl⟩
    · exact ⟨_, rfl⟩
  · exact ⟨_, rfl⟩
theorem pval_total (s : ByteArray) (h : s.size ≤ 281474976710656) : ∃ r, impl_parseValue.f s = some r := by
  obtain ⟨r, hr⟩ := pint_total s h
  unfold impl_parseValue.f
  rw [hr]
  simp only [Option.bind_some, impl_in.f]
  repeat' split
  all_goals exact ⟨_, rfl⟩
theorem pscheme_total (s : ByteArray) : ∃ r, Ev (fun k => impl_parseScheme.f k s) r := by
  have key : ∀ i : Fin 5, ∃ t, impl_SchemeName.f ((i.val : Nat) : Int) = some t := by
    intro i
    have h : ((impl_SchemeName.f ((i.val : Nat) : Int)).isSome) = true := by revert i; decide +kernel
    exact Option.isSome_iff_exists.mp h
  have go : ∀ (d n : Nat), n + d = 5 → ∃ r, Ev (fun k => impl_parseScheme.l0 k s (n : Int)) r := by
    intro d
    induction d with
    | zero =>
      intro n hn
      have h1 : ¬ (n : Int) ≤ 4 := by omega
      refine ⟨0, Ev.succ ?_⟩
      simp only [impl_parseScheme.l0, h1, if_false]; exact Ev.now _
    | succ d ih =>
      intro n hn
      have h1 : (n : Int) ≤ 4 := by omega
      obtain ⟨t, ht⟩ := key ⟨n, by omega⟩
      dsimp only at ht
      obtain ⟨r, hr⟩ := ih (n + 1) (by omega)
      have e0 : wrap64 ((n : Int) + 1) = ((n + 1 : Nat) : Int) := wrap_up (i := n) (n := 9) (by omega) (by omega)
      by_cases c : t.toList = s.toList
      · refine ⟨(n : Int), Ev.succ ?_⟩
        simp only [impl_parseScheme.l0, h1, if_true, ht, Option.bind_some, c]; exact Ev.now _
      · refine ⟨r, Ev.succ ?_⟩
        simp only [impl_parseScheme.l0, h1, if_true, ht, Option.bind_some, c, if_false, e0]; exact hr
  exact go 4 1 rfl
theorem impl_j0 (s : ByteArray) (xs : List ByteArray) (h2 : 2 < xs.length) (hsz : ∀ x ∈ xs, x.size ≤ 281474976710656) (a b z c d : Int) : ∃ r : O7, Ev (fun k => impl_ParseOp.j0 k s xs a b z c d) r ∧ Good7 s r := by
  have hl : (2 : Int) < (xs.length : Int) := by omega
  have hx : (rdOf ByteArray.empty xs 2).size ≤ 281474976710656 := by
    have : rdOf ByteArray.empty xs 2 = xs[2] := by simp [rdOf, h2]
    rw [this]; exact hsz _ (List.getElem_mem h2)
  by_cases c3 : a = 3
  · obtain ⟨r, hr⟩ := pval_total _ hx
    obtain ⟨q, hq, hg⟩ := tail_impl s a b c d z r.1
    refine ⟨q, Ev.succ ?_, hg⟩
    simp only [impl_ParseOp.j0, c3, if_true, hl, hr, Option.bind_some]
    rw [c3] at hq; exact hq
  · by_cases c4 : a = 4
    · obtain ⟨r, hr⟩ := pint_total _ hx
      obtain ⟨q, hq, hg⟩ := tail_impl s a b c d r.1 z
      refine ⟨q, Ev.succ ?_, hg⟩
      have c3' : ¬ (4 : Int) = 3 := by decide
      simp only [impl_ParseOp.j0, c4, c3', if_false, if_true, hl, hr, Option.bind_some]
      rw [c4] at hq; exact hq
    · obtain ⟨q, hq, hg⟩ := tail_impl s a b c d z z
      refine ⟨q, Ev.succ ?_, hg⟩
      simp only [impl_ParseOp.j0, c3, c4, if_false]
      exact hq
theorem good_impl (s : ByteArray) (hs : s.size ≤ 1048576) : ∃ r : O7, Ev (fun k => impl_ParseOp.f k s) r ∧ Good7 s r := by
  unfold impl_ParseOp.f
  by_cases h0 : s.toList = ([] : List UInt8)
  · simp only [h0, if_true]; exact now7 s
  simp only [h0, if_false]
  have hsp : strings_Split.f s (⟨#[32]⟩ : ByteArray) = some (Lib.splitB ⟨#[32]⟩ 0 (Lib.countB s ⟨#[32]⟩) s) := by
    unfold strings_Split.f
    rw [if_pos (by omega), if_pos (show 1 ≤ (⟨#[32]⟩ : ByteArray).size by decide)]
  have hlen : (Lib.splitB ⟨#[32]⟩ 0 (Lib.countB s ⟨#[32]⟩) s).length = Lib.countB s ⟨#[32]⟩ + 1 := Lib.splitB_all _ (by decide) 0 _ s rfl
  have hcnt := Lib.countB_le (⟨#[32]⟩ : ByteArray) (by decide) s.size s (Nat.le_refl _)
  have hple := split_le ⟨#[32]⟩ (Lib.countB s ⟨#[32]⟩) s
  generalize Lib.splitB ⟨#[32]⟩ 0 (Lib.countB s ⟨#[32]⟩) s = ps at hsp hlen hple
  have q1 : ps.length + ([(⟨#[]⟩ : ByteArray), (⟨#[]⟩ : ByteArray)] : List ByteArray).length < 8796093022208 := by simp; omega
  have hne : 0 < (s.size : Int) := by
    rcases Nat.eq_zero_or_pos s.size with h | h
    · exfalso; apply h0
      rw [ByteArray.toList_eq]
      exact List.eq_nil_of_length_eq_zero (by rw [Array.length_toList]; exact h)
    · omega
  simp only [hsp, Option.bind_some, q1, if_true, hne, strings_IndexByte.f]
  have hxl : 2 < (ps ++ [(⟨#[]⟩ : ByteArray), (⟨#[]⟩ : ByteArray)]).length := by simp; omega
  have hxs : ∀ x ∈ ps ++ [(⟨#[]⟩ : ByteArray), (⟨#[]⟩ : ByteArray)], x.size ≤ 281474976710656 := by
    intro x hx
    rcases List.mem_append.mp hx with hx | hx
    · have := hple x hx; omega
    · rcases List.mem_cons.mp hx with rfl | hx
      · decide
      · rw [List.mem_singleton.mp hx]; decide
  generalize ps ++ [(⟨#[]⟩ : ByteArray), (⟨#[]⟩ : ByteArray)] = xs at hxl hxs
  have l0 : (0 : Int) < (xs.length : Int) := by omega
  have l1 : (1 : Int) < (xs.length : Int) := by omega
  simp only [l0, l1, if_true]
  generalize wrap64 (Lib.indexByte _ _ + 1) = kd
  by_cases c0 : (rdOf ByteArray.empty xs 0).toList = ([] : List UInt8)
  · simp only [c0, if_true]; exact now7 s
  have hz : 1 ≤ ((rdOf ByteArray.empty xs 0).size : Int) := by
    rcases Nat.eq_zero_or_pos (rdOf ByteArray.empty xs 0).size with h | h
    · exfalso; apply c0
      rw [ByteArray.toList_eq]
      exact List.eq_nil_of_length_eq_zero (by rw [Array.length_toList]; exact h)
    · omega
  have hr0 : rdOf ByteArray.empty xs 0 = xs[0] := by simp [rdOf, show 0 < xs.length by omega]
  have hr1 : rdOf ByteArray.empty xs 1 = xs[1] := by simp [rdOf, show 1 < xs.length by omega]
  have z0 := hxs _ (List.getElem_mem (show 0 < xs.length by omega))
  have z1 := hxs _ (List.getElem_mem (show 1 < xs.length by omega))
  obtain ⟨v, hv⟩ := pint_total ((rdOf ByteArray.empty xs 0).extract 1 (rdOf ByteArray.empty xs 0).size) (by rw [hr0]; simp only [ByteArray.size_extract]; omega)
  obtain ⟨n, hn⟩ := pint_total (rdOf ByteArray.empty xs 1) (by rw [hr1]; exact z1)
  obtain ⟨sc, hsc⟩ := pscheme_total (rdOf ByteArray.empty xs 1)
  simp only [c0, if_false, hz, if_true, hv, Option.bind_some]
  by_cases k1 : kd = 1
  · simp only [k1, if_true]
    obtain ⟨r, hr, hg⟩ := impl_j0 s xs hxl hxs 1 v.1 0 sc 0
    exact ⟨r, Ev.bind hsc hr, hg⟩
  simp only [k1, if_false]
  by_cases k2 : kd = 2
  · simp only [k2, if_true, hn, Option.bind_some]; exact impl_j0 s xs hxl hxs 2 v.1 0 0 n.1
  simp only [k2, if_false]
  by_cases k3 : kd = 3
  · simp only [k3, if_true, hn, Option.bind_some]; exact impl_j0 s xs hxl hxs 3 v.1 0 0 n.1
  simp only [k3, if_false]
  by_cases k4 : kd = 4
  · simp only [k4, if_true, hn, Option.bind_some]; exact impl_j0 s xs hxl hxs 4 v.1 0 0 n.1
  simp only [k4, if_false]
  exact impl_j0 s xs hxl hxs kd v.1 0 0 0
-- the other parser
theorem cut_total (s : ByteArray) (x1 : Int) (hs : s.size ≤ 1048576) : ∃ r : List ByteArray, Ev (fun k => spec_l2Cut.f k s x1) r ∧ 0 < r.length ∧ ∀ x ∈ r, x.size ≤ s.size := by
  have go : ∀ (d j i : Nat) (acc : List ByteArray), j + d = s.size → i ≤ j → acc.length ≤ j → (∀ x ∈ acc, x.size ≤ s.size) → ∃ r : List ByteArray, Ev (fun k => spec_l2Cut.l0 k s x1 acc (i : Int) (j : Int)) r ∧ 0 < r.length ∧ ∀ x ∈ r, x.size ≤ s.size := by
    intro d
    induction d with
    | zero =>
      intro j i acc hj hi ha hx
      have g1 : ¬ (j : Int) < (s.size : Int) := by omega
      have g2 : (0 : Int) ≤ (i : Int) := by omega
      have g3 : (i : Int) ≤ (s.size : Int) := by omega
      have g4 : acc.length < 8796093022208 := by omega
      refine ⟨acc ++ [s.extract (i : Int).toNat s.size], Ev.succ ?_, by simp, ?_⟩
      · simp only [spec_l2Cut.l0, g1, g2, g3, g4, if_true, if_false]; exact Ev.now _
      · intro x hx'
        rcases List.mem_append.mp hx' with h | h
        · exact hx x h
        · rw [List.mem_singleton.mp h]; simp only [ByteArray.size_extract]; omega
    | succ d ih =>
      intro j i acc hj hi ha hx
      have g1 : (j : Int) < (s.size : Int) := by omega
      have g0 : (0 : Int) ≤ (j : Int) := by omega
      have e0 : wrap64 ((j : Int) + 1) = ((j + 1 : Nat) : Int) := wrap_up (i := j) (n := 9223372036854775807) (by omega) (by omega)
      by_cases c : bt s (j : Int) = x1
      · have g2 : (0 : Int) ≤ (i : Int) := by omega
        have g3 : (i : Int) ≤ (j : Int) := by omega
        have g3' : (j : Int) ≤ (s.size : Int) := by omega
        have g4 : acc.length < 8796093022208 := by omega
        obtain ⟨r, hr, hp⟩ := ih (j + 1) (j + 1) (acc ++ [s.extract (i : Int).toNat (j : Int).toNat]) (by omega) (by omega) (by simp; omega) (by
          intro x hx'
          rcases List.mem_append.mp hx' with h | h
          · exact hx x h
          · rw [List.mem_singleton.mp h]; simp only [ByteArray.size_extract]; omega)
        refine ⟨r, Ev.succ ?_, hp⟩
        simp only [spec_l2Cut.l0, g1, g0, c, g2, g3, g3', g4, if_true, e0]; exact hr
      · obtain ⟨r, hr, hp⟩ := ih (j + 1) i acc (by omega) (by omega) (by omega) hx
        refine ⟨r, Ev.succ ?_, hp⟩
        simp only [spec_l2Cut.l0, g1, g0, c, if_true, if_false, e0]; exact hr
  exact go s.size 0 0 [] (by omega) (Nat.le_refl _) (by simp) (by simp)
theorem fint_total (v : Int) (h0 : -9223372036854775808 ≤ v) (h1 : v ≤ 9223372036854775807) : ∃ t : ByteArray, Ev (fun k => spec_FormatInt.f k v) t := by
  have zr : ∀ (acc : ByteArray) (ng : Bool), acc.size ≤ 100 → ∃ t : ByteArray, Ev (fun k => spec_FormatInt.l0 k 0 acc ng) t := by
    intro acc ng ha
    have ha' : 1 + acc.size ≤ 9223372036854775807 := by omega
    cases ng
    · refine ⟨acc, Ev.succ ?_⟩
      simp only [spec_FormatInt.l0, if_true, Bool.false_eq_true, if_false]; exact Ev.now _
    · refine ⟨(⟨#[45]⟩ : ByteArray) ++ acc, Ev.succ ?_⟩
      simp only [spec_FormatInt.l0, if_true, ha']; exact Ev.now _
  have go : ∀ (n : Nat) (v : Int) (acc : ByteArray) (ng : Bool), -9223372036854775808 ≤ v → v ≤ 9223372036854775807 → v.natAbs < 10 ^ n → acc.size + n ≤ 100 → ∃ t : ByteArray, Ev (fun k => spec_FormatInt.l0 k v acc ng) t := by
    intro n
    induction n with
    | zero =>
      intro v acc ng _ _ hv ha
      have hv0 : v = 0 := by rw [Nat.pow_zero] at hv; omega
      rw [hv0]; exact zr acc ng (by omega)
    | succ n ih =>
      intro v acc ng r0 r1 hv ha
      by_cases hv0 : v = 0
      · rw [hv0]; exact zr acc ng (by omega)
      have na : (Int.tdiv v 10).natAbs = v.natAbs / 10 := Int.natAbs_tdiv v 10
      have hq : (Int.tdiv v 10).natAbs < 10 ^ n := by
        rw [na]
        rw [Nat.pow_succ] at hv
        exact Nat.div_lt_of_lt_mul (by omega)
      have q0 : -9223372036854775808 ≤ Int.tdiv v 10 := by omega
      have q1 : Int.tdiv v 10 ≤ 9223372036854775807 := by omega
      have ew : wrap64 (Int.tdiv v 10) = Int.tdiv v 10 := wrap_in q0 q1
      have step : ∀ x : Int, ∃ t : ByteArray, Ev (fun k => spec_FormatInt.l0 k (Int.tdiv v 10) (strOfNums [x] ++ acc) ng) t := fun x => ih _ _ _ q0 q1 hq (by rw [ByteArray.size_append, strOfNums_size]; simp only [List.length_singleton]; omega)
      have hsz : ∀ x : Int, (strOfNums [x]).size + acc.size ≤ 9223372036854775807 := by intro x; rw [strOfNums_size]; simp only [List.length_singleton]; omega
      by_cases c : Int.tmod v 10 < 0
      · obtain ⟨t, ht⟩ := step ((wrap64 (48 + (wrap64 (-(Int.tmod v 10))))) % 256)
        refine ⟨t, Ev.succ ?_⟩
        simp only [spec_FormatInt.l0, hv0, if_false, c, if_true, Option.bind_some, hsz, ew]; exact ht
      · obtain ⟨t, ht⟩ := step ((wrap64 (48 + (Int.tmod v 10))) % 256)
        refine ⟨t, Ev.succ ?_⟩
        simp only [spec_FormatInt.l0, hv0, if_false, c, if_true, Option.bind_some, hsz, ew]; exact ht
  unfold spec_FormatInt.f
  by_cases hv0 : v = 0
  · exact ⟨⟨#[48]⟩, by simp only [hv0, if_true]; exact Ev.now _⟩
  · simp only [hv0, if_false]
    exact go 30 v _ _ h0 h1 (by have : v.natAbs ≤ 9223372036854775808 := by omega
                                exact Nat.lt_of_le_of_lt this (by decide)) (by decide)
theorem wrap_range (v : Int) : -9223372036854775808 ≤ wrap64 v ∧ wrap64 v ≤ 9223372036854775807 := by unfold wrap64; omega
theorem sint_j2 (s : ByteArray) (x4 x5 : Int) (b : Bool) (h0 : -9223372036854775808 ≤ x4) (h1 : x4 ≤ 9223372036854775807) : ∃ r : Int × Bool, Ev (fun k => spec_ParseInt.j2 k s x4 x5 b) r := by
  obtain ⟨t1, e1⟩ := fint_total x4 h0 h1
  obtain ⟨t2, e2⟩ := fint_total (wrap64 (-x4)) (wrap_range _).1 (wrap_range _).2
  by_cases c5 : x5 > 9
  · refine ⟨(0, false), Ev.succ ?_⟩
    cases b <;> simp only [spec_ParseInt.j2, c5, if_true, Bool.false_eq_true, if_false] <;> exact Ev.now _
  by_cases cs : (s.size : Int) > 10
  · refine ⟨(0, false), Ev.succ ?_⟩
    cases b <;> simp only [spec_ParseInt.j2, c5, cs, if_true, Bool.false_eq_true, if_false] <;> exact Ev.now _
  cases b
  · by_cases ct : t1.toList = s.toList
    · refine ⟨(x4, true), Ev.succ ?_⟩
      simp only [spec_ParseInt.j2, c5, cs, Bool.false_eq_true, if_false]
      exact Ev.bind e1 (by simp only [ct, if_true]; exact Ev.now _)
    · refine ⟨(0, false), Ev.succ ?_⟩
      simp only [spec_ParseInt.j2, c5, cs, Bool.false_eq_true, if_false]
      exact Ev.bind e1 (by simp only [ct, if_false]; exact Ev.now _)
  · by_cases ct : t2.toList = s.toList
    · refine ⟨(wrap64 (-x4), true), Ev.succ ?_⟩
      simp only [spec_ParseInt.j2, c5, cs, if_true, if_false]
      exact Ev.bind e2 (by simp only [ct, if_true]; exact Ev.now _)
    · refine ⟨(0, false), Ev.succ ?_⟩
      simp only [spec_ParseInt.j2, c5, cs, if_true, if_false]
      exact Ev.bind e2 (by simp only [ct, if_false]; exact Ev.now _)
theorem sint_total (s : ByteArray) : ∃ r : Int × Bool, Ev (fun k => spec_ParseInt.f k s) r := by
  have fin : ∀ x4 x5 x6 : Int, -9223372036854775808 ≤ x4 → x4 ≤ 9223372036854775807 → ∃ r : Int × Bool, Ev (fun k => spec_ParseInt.j1 k s x4 x5 x6 false) r := by
    intro x4 x5 x6 h0 h1
    by_cases c : (0 : Int) < (s.size : Int)
    · obtain ⟨r, hr⟩ := sint_j2 s x4 x5 (bt s 0 == 45) h0 h1
      refine ⟨r, Ev.succ ?_⟩
      simp only [spec_ParseInt.j1, Bool.false_eq_true, if_false, gt_iff_lt, c, if_true]; exact hr
    · obtain ⟨r, hr⟩ := sint_j2 s x4 x5 false h0 h1
      refine ⟨r, Ev.succ ?_⟩
      simp only [spec_ParseInt.j1, Bool.false_eq_true, if_false, gt_iff_lt, c]; exact hr
  have go : ∀ (d n : Nat) (x4 x5 : Int), n + d = 11 → -9223372036854775808 ≤ x4 → x4 ≤ 9223372036854775807 → ∃ r : Int × Bool, Ev (fun k => spec_ParseInt.l0 k s x4 x5 (n : Int)) r := by
    intro d
    induction d with
    | zero =>
      intro n x4 x5 hn h0 h1
      obtain ⟨r, hr⟩ := fin x4 x5 (n : Int) h0 h1
      have h11 : ¬ (n : Int) < 11 := by omega
      refine ⟨r, Ev.succ ?_⟩
      by_cases c : (n : Int) < (s.size : Int)
      · simp only [spec_ParseInt.l0, c, if_true, h11, decide_false]; exact hr
      · simp only [spec_ParseInt.l0, c, if_false]; exact hr
    | succ d ih =>
      intro n x4 x5 hn h0 h1
      by_cases c : (n : Int) < (s.size : Int)
      · have h11 : (n : Int) < 11 := by omega
        have e0 : wrap64 ((n : Int) + 1) = ((n + 1 : Nat) : Int) := wrap_up (i := n) (n := 99) (by omega) (by omega)
        have g0 : (0 : Int) ≤ (n : Int) := by omega
        obtain ⟨r', hr'⟩ := ih (n + 1) x4 x5 (by omega) h0 h1
        by_cases d1 : bt s (n : Int) ≥ 48
        · by_cases d2 : bt s (n : Int) ≤ 57
          · obtain ⟨r, hr⟩ := ih (n + 1) (wrap64 ((wrap64 (x4 * 10)) + (((bt s (n : Int)) - 48) % 256))) (wrap64 (x5 + 1)) (by omega) (wrap_range _).1 (wrap_range _).2
            refine ⟨r, Ev.succ ?_⟩
            simp only [spec_ParseInt.l0, c, if_true, h11, decide_true]
            refine Ev.succ ?_
            simp only [spec_ParseInt.j1, g0, c, d1, d2, if_true, e0]; exact hr
          · refine ⟨r', Ev.succ ?_⟩
            simp only [spec_ParseInt.l0, c, if_true, h11, decide_true]
            refine Ev.succ ?_
            simp only [spec_ParseInt.j1, g0, c, d1, d2, if_true, if_false, e0]; exact hr'
        · refine ⟨r', Ev.succ ?_⟩
          simp only [spec_ParseInt.l0, c, if_true, h11, decide_true]
          refine Ev.succ ?_
          simp only [spec_ParseInt.j1, g0, c, d1, if_true, if_false, e0]; exact hr'
      · obtain ⟨r, hr⟩ := fin x4 x5 (n : Int) h0 h1
        refine ⟨r, Ev.succ ?_⟩
        simp only [spec_ParseInt.l0, c, if_false]; exact hr
  exact go 11 0 0 0 rfl (by decide) (by decide)
theorem snum_total (s : ByteArray) : ∃ r : Int, Ev (fun k => spec_l3Number.f k s) r := by
  unfold spec_l3Number.f
  by_cases c : s.toList = ([45] : List UInt8)
  · exact ⟨-1, by simp only [c, if_true]; exact Ev.now _⟩
  obtain ⟨⟨v, b⟩, hr⟩ := sint_total s
  simp only [c, if_false]
  cases b
  · exact ⟨-2, Ev.bind hr (by simp only [Bool.false_eq_true, if_false]; exact Ev.now _)⟩
  · by_cases cv : v < 0
    · exact ⟨-2, Ev.bind hr (by simp only [cv, if_true]; exact Ev.now _)⟩
    · exact ⟨v, Ev.bind hr (by simp only [cv, if_true, if_false]; exact Ev.now _)⟩
theorem sscheme_total (s : ByteArray) : ∃ r : Int, Ev (fun k => spec_l15Scheme.f k s) r := by
  have key : ∀ i : Fin 5, ∃ t, spec_SchemeName.f ((i.val : Nat) : Int) = some t := by
    intro i
    have h : ((spec_SchemeName.f ((i.val : Nat) : Int)).isSome) = true := by revert i; decide +kernel
    exact Option.isSome_iff_exists.mp h
  have go : ∀ (d n : Nat), n + d = 5 → ∃ r : Int, Ev (fun k => spec_l15Scheme.l0 k s (n : Int)) r := by
    intro d
    induction d with
    | zero =>
      intro n hn
      have h1 : ¬ (n : Int) ≤ 4 := by omega
      refine ⟨0, Ev.succ ?_⟩
      simp only [spec_l15Scheme.l0, h1, if_false]; exact Ev.now _
    | succ d ih =>
      intro n hn
      have h1 : (n : Int) ≤ 4 := by omega
      obtain ⟨t, ht⟩ := key ⟨n, by omega⟩
      dsimp only at ht
      obtain ⟨r, hr⟩ := ih (n + 1) (by omega)
      have e0 : wrap64 ((n : Int) + 1) = ((n + 1 : Nat) : Int) := wrap_up (i := n) (n := 9) (by omega) (by omega)
      by_cases c : t.toList = s.toList
      · refine ⟨(n : Int), Ev.succ ?_⟩
        simp only [spec_l15Scheme.l0, h1, if_true, ht, Option.bind_some, c]; exact Ev.now _
      · refine ⟨r, Ev.succ ?_⟩
        simp only [spec_l15Scheme.l0, h1, if_true, ht, Option.bind_some, c, if_false, e0]; exact hr
  exact go 4 1 rfl
theorem spec_words (s : ByteArray) (xs : List ByteArray) (hl : 0 < xs.length) (hl3 : xs.length ≤ 3) (h0 : ((rdOf ByteArray.empty xs 0).size : Int) = 2) (id : Int) : ∀ (d n : Nat) (ys : List Int), n + d = xs.length → 1 ≤ n → ys.length = 2 → ∃ r : O7, Ev (fun k => spec_ParseOp.l0 k s xs ys (n : Int) 0 id 0 0 0 0) r ∧ Good7 s r := by
  have l0 : (0 : Int) < (xs.length : Int) := by omega
  have z0 : (0 : Int) < ((rdOf ByteArray.empty xs 0).size : Int) := by omega
  have lw : wrap64 ((xs.length : Int) - 1) = ((xs.length - 1 : Nat) : Int) := wrap_down hl (by omega)
  have lw0 : (0 : Int) ≤ ((xs.length - 1 : Nat) : Int) := by omega
  have lw1 : ((xs.length - 1 : Nat) : Int) < (xs.length : Int) := by omega
  intro d
  induction d with
  | zero =>
    intro n ys hn h1 hy
    have g1 : ¬ (n : Int) < (xs.length : Int) := by omega
    have y0 : (0 : Int) < (ys.length : Int) := by omega
    have y1 : (1 : Int) < (ys.length : Int) := by omega
    by_cases b1 : bt (rdOf ByteArray.empty xs 0) 0 = 98
    · obtain ⟨sc, hsc⟩ := sscheme_total (rdOf ByteArray.empty xs ((xs.length - 1 : Nat) : Int))
      obtain ⟨r, hr, hg⟩ := tail_spec s 1 id sc 0 0 0
      refine ⟨r, Ev.succ ?_, hg⟩
      simp only [spec_ParseOp.l0, g1, if_false, l0, z0, b1, if_true, lw, lw0, lw1]
      exact Ev.bind hsc hr
    by_cases b2 : bt (rdOf ByteArray.empty xs 0) 0 = 114
    · obtain ⟨r, hr, hg⟩ := tail_spec s 2 id 0 (rd ys 0) 0 0
      refine ⟨r, Ev.succ ?_, hg⟩
      simp only [spec_ParseOp.l0, g1, if_false, l0, z0, b1, b2, if_true, y0, show ¬ (114 : Int) = 98 by decide]; exact hr
    by_cases b3 : bt (rdOf ByteArray.empty xs 0) 0 = 119
    · obtain ⟨r, hr, hg⟩ := tail_spec s 3 id 0 (rd ys 0) 0 (rd ys 1)
      refine ⟨r, Ev.succ ?_, hg⟩
      simp only [spec_ParseOp.l0, g1, if_false, l0, z0, b1, b2, b3, if_true, y0, y1, show ¬ (119 : Int) = 98 by decide, show ¬ (119 : Int) = 114 by decide]; exact hr
    by_cases b4 : bt (rdOf ByteArray.empty xs 0) 0 = 115
    · obtain ⟨r, hr, hg⟩ := tail_spec s 4 id 0 (rd ys 0) (rd ys 1) 0
      refine ⟨r, Ev.succ ?_, hg⟩
      simp only [spec_ParseOp.l0, g1, if_false, l0, z0, b1, b2, b3, b4, if_true, y0, y1, show ¬ (115 : Int) = 98 by decide, show ¬ (115 : Int) = 114 by decide, show ¬ (115 : Int) = 119 by decide]; exact hr
    by_cases b5 : bt (rdOf ByteArray.empty xs 0) 0 = 99
    · obtain ⟨r, hr, hg⟩ := tail_spec s 5 id 0 0 0 0
      refine ⟨r, Ev.succ ?_, hg⟩
      simp only [spec_ParseOp.l0, g1, if_false, l0, z0, b1, b2, b3, b4, b5, if_true, show ¬ (99 : Int) = 98 by decide, show ¬ (99 : Int) = 114 by decide, show ¬ (99 : Int) = 119 by decide, show ¬ (99 : Int) = 115 by decide]; exact hr
    by_cases b6 : bt (rdOf ByteArray.empty xs 0) 0 = 97
    · obtain ⟨r, hr, hg⟩ := tail_spec s 6 id 0 0 0 0
      refine ⟨r, Ev.succ ?_, hg⟩
      simp only [spec_ParseOp.l0, g1, if_false, l0, z0, b1, b2, b3, b4, b5, b6, if_true, show ¬ (97 : Int) = 98 by decide, show ¬ (97 : Int) = 114 by decide, show ¬ (97 : Int) = 119 by decide, show ¬ (97 : Int) = 115 by decide, show ¬ (97 : Int) = 99 by decide]; exact hr
    · obtain ⟨r, hr, hg⟩ := tail_spec s 0 id 0 0 0 0
      refine ⟨r, Ev.succ ?_, hg⟩
      simp only [spec_ParseOp.l0, g1, if_false, l0, z0, b1, b2, b3, b4, b5, b6, if_true]; exact hr
  | succ d ih =>
    intro n ys hn h1 hy
    have g1 : (n : Int) < (xs.length : Int) := by omega
    have g0 : (0 : Int) ≤ (n : Int) := by omega
    have w1 : wrap64 ((n : Int) - 1) = ((n - 1 : Nat) : Int) := wrap_down (by omega) (by omega)
    have w2 : (0 : Int) ≤ ((n - 1 : Nat) : Int) := by omega
    have w3 : ((n - 1 : Nat) : Int) < (ys.length : Int) := by omega
    have e0 : wrap64 ((n : Int) + 1) = ((n + 1 : Nat) : Int) := wrap_up (i := n) (n := 99) (by omega) (by omega)
    obtain ⟨t, ht⟩ := snum_total (rdOf ByteArray.empty xs (n : Int))
    obtain ⟨r, hr, hg⟩ := ih (n + 1) (ys.set ((n - 1 : Nat) : Int).toNat t) (by omega) (by omega) (by rw [List.length_set]; exact hy)
    refine ⟨r, Ev.succ ?_, hg⟩
    simp only [spec_ParseOp.l0, g1, if_true, g0, w1, w2, w3, e0]
    exact Ev.bind ht hr
theorem good_spec (s : ByteArray) (hs : s.size ≤ 1048576) : ∃ r : O7, Ev (fun k => spec_ParseOp.f k s) r ∧ Good7 s r := by
  obtain ⟨xs, hc, hl, hx⟩ := cut_total s 32 hs
  have l0 : (0 : Int) < (xs.length : Int) := by omega
  suffices h : ∃ r : O7, Ev (fun k => if ((rdOf ByteArray.empty xs 0).size : Int) = 2 then (spec_ParseOp.j0 k s xs (decide ((xs.length : Int) > 3))) else (spec_ParseOp.j0 k s xs true)) r ∧ Good7 s r by
    obtain ⟨r, hr, hg⟩ := h
    refine ⟨r, ?_, hg⟩
    unfold spec_ParseOp.f
    refine Ev.bind hc ?_
    simp only [l0, if_true]; exact hr
  have jt : ∃ r : O7, Ev (fun k => spec_ParseOp.j0 k s xs true) r ∧ Good7 s r := by
    refine ⟨bad7, Ev.succ ?_, .inl rfl⟩
    simp only [spec_ParseOp.j0, if_true]; exact Ev.now _
  by_cases c2 : ((rdOf ByteArray.empty xs 0).size : Int) = 2
  · by_cases c3 : (xs.length : Int) > 3
    · simp only [c2, if_true, c3, decide_true]; exact jt
    · have z1 : (1 : Int) < ((rdOf ByteArray.empty xs 0).size : Int) := by omega
      obtain ⟨r, hr, hg⟩ := spec_words s xs hl (by omega) c2 (wrap64 ((wrap64 (bt (rdOf ByteArray.empty xs 0) 1)) - 48)) (xs.length - 1) 1 [0, 0] (by omega) (by omega) rfl
      refine ⟨r, ?_, hg⟩
      simp only [c2, if_true, c3, decide_false]
      refine Ev.succ ?_
      simp only [spec_ParseOp.j0, Bool.false_eq_true, if_false, l0, z1, if_true]; exact hr
  · simp only [c2, if_false]; exact jt
-- what is written is read back
theorem chk_all (a0 a1 a2 a3 a4 a5 : Int) (h : (1 ≤ a1 ∧ a1 ≤ 9 ∧ 1 ≤ a0 ∧ a0 ≤ 6 ∧ (a0 = 1 → 1 ≤ a2 ∧ a2 ≤ 4) ∧ (a0 = 2 ∨ a0 = 3 ∨ a0 = 4 → 0 ≤ a3 ∧ a3 ≤ 5) ∧ (a0 = 3 → -1 ≤ a5 ∧ a5 ≤ 99) ∧ (a0 = 4 → a3 ≤ a4 ∧ a4 ≤ 5) ∧ (a0 = 1 ∨ a2 = 0) ∧ (a0 = 2 ∨ a0 = 3 ∨ a0 = 4 ∨ a3 = 0) ∧ (a0 = 4 ∨ a4 = 0) ∧ (a0 = 3 ∨ a5 = 0))) : chk a0 a1 a2 a3 a4 a5 = true := by
  obtain ⟨v1, v1', v0, v0', v2, v3, v5, v4, z2, z3, z4, z5⟩ := h
  rcases (show a0 = 1 ∨ a0 = 2 ∨ a0 = 3 ∨ a0 = 4 ∨ a0 = 5 ∨ a0 = 6 by omega) with rfl | rfl | rfl | rfl | rfl | rfl
  · have := v2 rfl
    obtain rfl : a3 = 0 := by omega
    obtain rfl : a4 = 0 := by omega
    obtain rfl : a5 = 0 := by omega
    obtain ⟨i, rfl⟩ := Int.eq_ofNat_of_zero_le (show 0 ≤ a1 by omega)
    obtain ⟨j, rfl⟩ := Int.eq_ofNat_of_zero_le (show 0 ≤ a2 by omega)
    exact chk1 ⟨i, by omega⟩ (by dsimp only; omega) ⟨j, by omega⟩ (by dsimp only; omega)
  · have := v3 (.inl rfl)
    obtain rfl : a2 = 0 := by omega
    obtain rfl : a4 = 0 := by omega
    obtain rfl : a5 = 0 := by omega
    obtain ⟨i, rfl⟩ := Int.eq_ofNat_of_zero_le (show 0 ≤ a1 by omega)
    obtain ⟨j, rfl⟩ := Int.eq_ofNat_of_zero_le (show 0 ≤ a3 by omega)
    exact chk2 ⟨i, by omega⟩ (by dsimp only; omega) ⟨j, by omega⟩
  · have := v3 (.inr (.inl rfl))
    have := v5 rfl
    obtain rfl : a2 = 0 := by omega
    obtain rfl : a4 = 0 := by omega
    rcases (show a3 = 0 ∨ a3 = 1 ∨ a3 = 2 ∨ a3 = 3 ∨ a3 = 4 ∨ a3 = 5 by omega) with rfl | rfl | rfl | rfl | rfl | rfl
    · exact chk30 a1 a5 (by omega) (by omega) (by omega) (by omega)
    · exact chk31 a1 a5 (by omega) (by omega) (by omega) (by omega)
    · exact chk32 a1 a5 (by omega) (by omega) (by omega) (by omega)
    · exact chk33 a1 a5 (by omega) (by omega) (by omega) (by omega)
    · exact chk34 a1 a5 (by omega) (by omega) (by omega) (by omega)
    · exact chk35 a1 a5 (by omega) (by omega) (by omega) (by omega)
  · have := v3 (.inr (.inr rfl))
    have := v4 rfl
    obtain rfl : a2 = 0 := by omega
    obtain rfl : a5 = 0 := by omega
    obtain ⟨i, rfl⟩ := Int.eq_ofNat_of_zero_le (show 0 ≤ a1 by omega)
    obtain ⟨j, rfl⟩ := Int.eq_ofNat_of_zero_le (show 0 ≤ a3 by omega)
    obtain ⟨l, rfl⟩ := Int.eq_ofNat_of_zero_le (show 0 ≤ a4 by omega)
    exact chk4 ⟨i, by omega⟩ (by dsimp only; omega) ⟨j, by omega⟩ ⟨l, by omega⟩ (by dsimp only; omega)
  · obtain rfl : a2 = 0 := by omega
    obtain rfl : a3 = 0 := by omega
    obtain rfl : a4 = 0 := by omega
    obtain rfl : a5 = 0 := by omega
    obtain ⟨i, rfl⟩ := Int.eq_ofNat_of_zero_le (show 0 ≤ a1 by omega)
    exact (chk56 ⟨i, by omega⟩ (by dsimp only; omega)).1
  · obtain rfl : a2 = 0 := by omega
    obtain rfl : a3 = 0 := by omega
    obtain rfl : a4 = 0 := by omega
    obtain rfl : a5 = 0 := by omega
    obtain ⟨i, rfl⟩ := Int.eq_ofNat_of_zero_le (show 0 ≤ a1 by omega)
    exact (chk56 ⟨i, by omega⟩ (by dsimp only; omega)).2
theorem bytes_eq {s t : ByteArray} (h : t.toList = s.toList) : t = s := by
  rw [ByteArray.toList_eq, ByteArray.toList_eq] at h
  exact ByteArray.ext (Array.toList_inj.mp h)
theorem complete (s : ByteArray) (r : O7) (hs : ¬ s.toList = ([] : List UInt8)) (hg : Good7 s r) (hr : r ≠ bad7) : Ev (fun k => spec_ParseOp.f k s) r ∧ Ev (fun k => impl_ParseOp.f k s) r := by
  rcases hg with h | ⟨a0, a1, a2, a3, a4, a5, t, rfl, e1, e2, ht⟩
  · exact absurd h hr
  obtain rfl : t = s := bytes_eq ht
  obtain ⟨b, v1, v2, v3⟩ := both_IsValidOp a0 a1 a2 a3 a4 a5
  cases b
  · exfalso
    have : Ev (fun k => spec_FormatOp.f k a0 a1 a2 a3 a4 a5) (⟨#[]⟩ : ByteArray) := by
      unfold spec_FormatOp.f
      refine Ev.bind v1 ?_
      simp only [Bool.false_eq_true, if_false]; exact Ev.now _
    obtain rfl := Ev.uniq e1 this
    exact hs (by rw [ByteArray.toList_eq])
  · have hc := chk_all a0 a1 a2 a3 a4 a5 (v3 rfl)
    unfold chk at hc
    cases hf : spec_FormatOp.f 60 a0 a1 a2 a3 a4 a5 with
    | none => rw [hf] at hc; simp at hc
    | some t' =>
      rw [hf] at hc
      obtain rfl := Ev.uniq (Ev.of (spec_FormatOp.mono _ _ _ _ _ _) hf) e1
      simp only [Option.elim_some, Bool.and_eq_true] at hc
      exact ⟨Ev.of (spec_ParseOp.mono _) (is7_eq hc.1), Ev.of (impl_ParseOp.mono _) (is7_eq hc.2)⟩
theorem both_ParseOp (s : ByteArray) (hs : s.size ≤ 1048576) : ∃ r : O7, Ev (fun k => spec_ParseOp.f k s) r ∧ Ev (fun k => impl_ParseOp.f k s) r ∧ Good7 s r := by
  obtain ⟨r, hr, gr⟩ := good_spec s hs
  obtain ⟨q, hq, gq⟩ := good_impl s hs
  by_cases he : s.toList = ([] : List UInt8)
  · obtain rfl : s = (⟨#[]⟩ : ByteArray) := bytes_eq (by rw [he, ByteArray.toList_eq])
    have h1 : spec_ParseOp.f 20 (⟨#[]⟩ : ByteArray) = some bad7 := by kernel_rfl
    have h2 : impl_ParseOp.f 20 (⟨#[]⟩ : ByteArray) = some bad7 := by kernel_rfl
    exact ⟨bad7, Ev.of (spec_ParseOp.mono _) h1, Ev.of (impl_ParseOp.mono _) h2, .inl rfl⟩
  by_cases c : r = bad7
  · by_cases c' : q = bad7
    · rw [c] at hr; rw [c'] at hq
      exact ⟨bad7, hr, hq, .inl rfl⟩
    · exact ⟨q, (complete s q he gq c').1, hq, gq⟩
  · exact ⟨r, hr, (complete s r he gr c).2, gr⟩
-- the cutter and strings.Split cut alike
theorem idx_at (t : ByteArray) (c : UInt8) (i : Nat) (hi : t.data.toList[i]? = some c) (hb : ∀ k, k < i → t.data.toList[k]? ≠ some c) : Lib.indexB t (⟨#[c]⟩ : ByteArray) = (i : Int) := by
  have e : Lib.indexB t (⟨#[c]⟩ : ByteArray) = Lib.indexByte t.data.toList c := Lib.index_one _ _
  rw [e]
  have hge := Lib.indexByte_ge t.data.toList c
  by_cases h : Lib.indexByte t.data.toList c = -1
  · exact absurd hi (Lib.indexByte_none h i)
  · obtain ⟨o, ho⟩ := Int.eq_ofNat_of_zero_le (show 0 ≤ Lib.indexByte t.data.toList c by omega)
    obtain ⟨h1, h2⟩ := Lib.indexByte_some ho
    rcases Nat.lt_trichotomy o i with hlt | heq | hgt
    · exact absurd h1 (hb o hlt)
    · rw [ho, heq]
    · exact absurd hi (h2 i hgt)
theorem idx_none (t : ByteArray) (c : UInt8) (hb : ∀ k : Nat, t.data.toList[k]? ≠ some c) : Lib.indexB t (⟨#[c]⟩ : ByteArray) = -1 := by
  have e : Lib.indexB t (⟨#[c]⟩ : ByteArray) = Lib.indexByte t.data.toList c := Lib.index_one _ _
  rw [e]
  have hge := Lib.indexByte_ge t.data.toList c
  by_cases h : Lib.indexByte t.data.toList c = -1
  · exact h
  · obtain ⟨o, ho⟩ := Int.eq_ofNat_of_zero_le (show 0 ≤ Lib.indexByte t.data.toList c by omega)
    exact absurd (Lib.indexByte_some ho).1 (hb o)
theorem bt_byte (s : ByteArray) (m : Nat) (c : UInt8) (hm : m < s.size) : bt s (m : Int) = (c.toNat : Int) ↔ s.data.toList[m]? = some c := by
  have e : s.data.toList[m]? = some s[m] := by
    rw [Array.getElem?_toList]; exact Array.getElem?_eq_getElem hm
  have e2 : bt s (m : Int) = (s[m].toNat : Int) := by
    unfold bt
    simp only [Int.toNat_natCast, hm, dif_pos]
  rw [e, e2]
  constructor
  · intro h
    have : s[m].toNat = c.toNat := by omega
    rw [UInt8.toNat_inj.mp this]
  · intro h; rw [Option.some.inj h]
theorem ext_at (s : ByteArray) (i k : Nat) : (s.extract i s.size).data.toList[k]? = s.data.toList[i + k]? := by
  have hs : s.size = s.data.toList.length := by rw [Array.length_toList]; rfl
  rw [ByteArray.data_extract, Array.toList_extract, List.extract_eq_take_drop, List.getElem?_take, List.getElem?_drop, hs]
  split
  · rfl
  · symm; rw [List.getElem?_eq_none]; omega
def pieces (c : UInt8) (t : ByteArray) : List ByteArray := Lib.splitB (⟨#[c]⟩ : ByteArray) 0 (Lib.countB t (⟨#[c]⟩ : ByteArray)) t
theorem cut_split (s : ByteArray) (c : UInt8) (hs : s.size ≤ 1048576) : Ev (fun k => spec_l2Cut.f k s (c.toNat : Int)) (pieces c s) := by
  have go : ∀ (d j i : Nat) (acc : List ByteArray), j + d = s.size → i ≤ j → acc.length ≤ j → (∀ m, i ≤ m → m < j → s.data.toList[m]? ≠ some c) → Ev (fun k => spec_l2Cut.l0 k s (c.toNat : Int) acc (i : Int) (j : Int)) (acc ++ pieces c (s.extract i s.size)) := by
    intro d
    induction d with
    | zero =>
      intro j i acc hj hi ha hx
      have g1 : ¬ (j : Int) < (s.size : Int) := by omega
      have g2 : (0 : Int) ≤ (i : Int) := by omega
      have g3 : (i : Int) ≤ (s.size : Int) := by omega
      have g4 : acc.length < 8796093022208 := by omega
      have hn : Lib.indexB (s.extract i s.size) (⟨#[c]⟩ : ByteArray) = -1 := by
        refine idx_none _ _ fun k => ?_
        rw [ext_at]
        by_cases hk : i + k < j
        · exact hx _ (by omega) hk
        · rw [List.getElem?_eq_none (by rw [Array.length_toList]; show s.size ≤ i + k; omega)]; exact fun h => by cases h
      have hp : pieces c (s.extract i s.size) = [s.extract i s.size] := by
        unfold pieces; exact Lib.splitB_miss _ _ _ _ hn
      rw [hp]
      refine Ev.succ ?_
      simp only [spec_l2Cut.l0, g1, g2, g3, g4, if_true, if_false, Int.toNat_natCast]; exact Ev.now _
    | succ d ih =>
      intro j i acc hj hi ha hx
      have g1 : (j : Int) < (s.size : Int) := by omega
      have g0 : (0 : Int) ≤ (j : Int) := by omega
      have e0 : wrap64 ((j : Int) + 1) = ((j + 1 : Nat) : Int) := wrap_up (i := j) (n := 9223372036854775807) (by omega) (by omega)
      by_cases cc : bt s (j : Int) = (c.toNat : Int)
      · have hc := (bt_byte s j c (by omega)).mp cc
        have g2 : (0 : Int) ≤ (i : Int) := by omega
        have g3 : (i : Int) ≤ (j : Int) := by omega
        have g3' : (j : Int) ≤ (s.size : Int) := by omega
        have g4 : acc.length < 8796093022208 := by omega
        have hr := ih (j + 1) (j + 1) (acc ++ [s.extract i j]) (by omega) (Nat.le_refl _) (by simp; omega) (fun m h1 h2 => absurd h2 (by omega))
        have hix : Lib.indexB (s.extract i s.size) (⟨#[c]⟩ : ByteArray) = ((j - i : Nat) : Int) := by
          refine idx_at _ _ _ ?_ fun k hk => ?_
          · rw [ext_at, show i + (j - i) = j by omega]; exact hc
          · rw [ext_at]; exact hx _ (by omega) (by omega)
        have ex1 : (s.extract i s.size).extract 0 (j - i) = s.extract i j := by
          rw [ByteArray.extract_extract]
          congr 1; omega
        have ex2 : (s.extract i s.size).extract (j - i + 1) (s.extract i s.size).size = s.extract (j + 1) s.size := by
          rw [ByteArray.extract_extract, ByteArray.size_extract]
          congr 1 <;> omega
        have hp : pieces c (s.extract i s.size) = s.extract i j :: pieces c (s.extract (j + 1) s.size) := by
          unfold pieces
          rw [Lib.countB_hit (s.extract i s.size) (⟨#[c]⟩ : ByteArray) (j - i) (Nat.le_refl 1) hix, Nat.add_comm 1, Lib.splitB_hit _ _ _ _ (j - i) hix]
          rw [Nat.add_zero, ex1]
          show _ :: Lib.splitB _ 0 (Lib.countB ((s.extract i s.size).extract (j - i + 1) (s.extract i s.size).size) _) ((s.extract i s.size).extract (j - i + 1) (s.extract i s.size).size) = _
          rw [ex2]
        rw [hp]
        refine Ev.succ ?_
        simp only [spec_l2Cut.l0, g1, g0, cc, g2, g3, g3', g4, if_true, e0, Int.toNat_natCast]
        rw [List.append_assoc] at hr; exact hr
      · have hr := ih (j + 1) i acc (by omega) (by omega) (by omega) (fun m h1 h2 => by
          rcases Nat.lt_or_ge m j with h | h
          · exact hx m h1 h
          · obtain rfl : m = j := by omega
            exact fun hh => cc ((bt_byte s m c (by omega)).mpr hh))
        refine Ev.succ ?_
        simp only [spec_l2Cut.l0, g1, g0, cc, if_true, if_false, e0]; exact hr
  have h := go s.size 0 0 [] (by omega) (Nat.le_refl _) (by simp) (fun m h1 h2 => absurd h2 (by omega))
  have e : s.extract 0 s.size = s := ByteArray.extract_zero_size
  rw [e] at h
  exact h
theorem both_ParseOps (s : ByteArray) (hs : s.size ≤ 1048576) : ∃ r : List S36 × Bool, Ev (fun k => spec_ParseOps.f k s) r ∧ Ev (fun k => impl_ParseOps.f k s) r ∧ r.1.length ≤ 60 := by
  by_cases he : s.toList = ([] : List UInt8)
  · refine ⟨([], true), ?_, ?_, by simp⟩
    · unfold spec_ParseOps.f
      simp only [he, Option.bind_some, if_true]; exact Ev.now _
    · unfold impl_ParseOps.f
      simp only [he, if_true]; exact Ev.now _
  have hc := cut_split s 59 hs
  have hsp : strings_Split.f s (⟨#[59]⟩ : ByteArray) = some (pieces 59 s) := by
    unfold strings_Split.f
    rw [if_pos (by omega), if_pos (show 1 ≤ (⟨#[59]⟩ : ByteArray).size by decide)]; rfl
  have hlen : (pieces 59 s).length = Lib.countB s ⟨#[59]⟩ + 1 := Lib.splitB_all _ (by decide) 0 _ s rfl
  have hcnt := Lib.countB_le (⟨#[59]⟩ : ByteArray) (by decide) s.size s (Nat.le_refl _)
  have hple : ∀ x ∈ pieces 59 s, x.size ≤ s.size := split_le ⟨#[59]⟩ (Lib.countB s ⟨#[59]⟩) s
  generalize pieces 59 s = ps at hc hsp hlen hple
  have hop : ∀ n : Nat, n < ps.length → ∃ r : O7, Ev (fun k => spec_ParseOp.f k (rdOf ByteArray.empty ps (n : Int))) r ∧ Ev (fun k => impl_ParseOp.f k (rdOf ByteArray.empty ps (n : Int))) r := by
    intro n hn
    have e : rdOf ByteArray.empty ps (n : Int) = ps[n] := by simp [rdOf, hn]
    have hz := hple _ (List.getElem_mem hn)
    obtain ⟨r, h1, h2, _⟩ := both_ParseOp (rdOf ByteArray.empty ps (n : Int)) (by rw [e]; omega)
    exact ⟨r, h1, h2⟩
  suffices h : ∃ r : List S36 × Bool, Ev (fun k => spec_ParseOps.l0 k [] ps 0) r ∧ Ev (fun k => impl_ParseOps.l0 k [] ps (ps.length : Int) 0) r ∧ r.1.length ≤ 60 by
    obtain ⟨r, h1, h2, h3⟩ := h
    refine ⟨r, ?_, ?_, h3⟩
    · unfold spec_ParseOps.f
      simp only [he, Option.bind_some, if_false]
      exact Ev.bind hc h1
    · unfold impl_ParseOps.f
      simp only [he, if_false, hsp, Option.bind_some]; exact h2
  by_cases h60 : ps.length ≤ 60
  · have i60 : (ps.length : Int) ≤ 60 := by omega
    have go : ∀ (d n : Nat) (acc : List S36), n + d = ps.length → acc.length = n → ∃ r : List S36 × Bool, Ev (fun k => spec_ParseOps.l0 k acc ps (n : Int)) r ∧ Ev (fun k => impl_ParseOps.l0 k acc ps (ps.length : Int) (n : Int)) r ∧ r.1.length ≤ 60 := by
      intro d
      induction d with
      | zero =>
        intro n acc hn ha
        have g1 : ¬ (n : Int) < (ps.length : Int) := by omega
        refine ⟨(acc, true), Ev.succ ?_, Ev.succ ?_, by dsimp only; omega⟩
        · simp only [spec_ParseOps.l0, g1, if_false]
          refine Ev.succ ?_
          simp only [spec_ParseOps.j1, Bool.false_eq_true, if_false, i60, decide_true]; exact Ev.now _
        · simp only [impl_ParseOps.l0, g1, if_false]; exact Ev.now _
      | succ d ih =>
        intro n acc hn ha
        have g1 : (n : Int) < (ps.length : Int) := by omega
        have g0 : (0 : Int) ≤ (n : Int) := by omega
        have e0 : wrap64 ((n : Int) + 1) = ((n + 1 : Nat) : Int) := wrap_up (i := n) (n := 99) (by omega) (by omega)
        have q1 : ¬ (acc.length : Int) = 60 := by omega
        have q2 : acc.length < 2932031007402 := by omega
        obtain ⟨⟨b0, b1, b2, b3, b4, b5, b⟩, h1, h2⟩ := hop n (by omega)
        cases b
        · refine ⟨([], false), Ev.succ ?_, Ev.succ ?_, by simp⟩
          · simp only [spec_ParseOps.l0, g1, if_true, i60, decide_true]
            refine Ev.succ ?_
            simp only [spec_ParseOps.j1, if_true, g0, g1]
            refine Ev.bind h1 ?_
            simp only [Bool.false_eq_true, if_false]; exact Ev.now _
          · simp only [impl_ParseOps.l0, g1, if_true, g0]
            refine Ev.bind h2 ?_
            simp only [Bool.false_eq_true, if_false]; exact Ev.now _
        · obtain ⟨r, s1, s2, s3⟩ := ih (n + 1) (acc ++ [⟨b0, b1, b2, b3, b4, b5⟩]) (by omega) (by simp; omega)
          refine ⟨r, Ev.succ ?_, Ev.succ ?_, s3⟩
          · simp only [spec_ParseOps.l0, g1, if_true, i60, decide_true]
            refine Ev.succ ?_
            simp only [spec_ParseOps.j1, if_true, g0, g1]
            refine Ev.bind h1 ?_
            simp only [if_true, q2, e0]; exact s1
          · simp only [impl_ParseOps.l0, g1, if_true, g0]
            refine Ev.bind h2 ?_
            simp only [if_true, if_false, q1, q2, e0]; exact s2
    exact go ps.length 0 [] (by omega) rfl
  · have i60 : ¬ (ps.length : Int) ≤ 60 := by omega
    have g00 : (0 : Int) < (ps.length : Int) := by omega
    refine ⟨([], false), ?_, ?_, by simp⟩
    · refine Ev.succ ?_
      simp only [spec_ParseOps.l0, g00, if_true, i60, decide_false]
      refine Ev.succ ?_
      simp only [spec_ParseOps.j1, Bool.false_eq_true, if_false, i60, decide_false]; exact Ev.now _
    · have go : ∀ (d n : Nat) (acc : List S36), n + d = 60 → acc.length = n → Ev (fun k => impl_ParseOps.l0 k acc ps (ps.length : Int) (n : Int)) ([], false) := by
        intro d
        induction d with
        | zero =>
          intro n acc hn ha
          have g1 : (n : Int) < (ps.length : Int) := by omega
          have g0 : (0 : Int) ≤ (n : Int) := by omega
          have q1 : (acc.length : Int) = 60 := by omega
          obtain ⟨⟨b0, b1, b2, b3, b4, b5, b⟩, h1, h2⟩ := hop n (by omega)
          refine Ev.succ ?_
          simp only [impl_ParseOps.l0, g1, if_true, g0]
          refine Ev.bind h2 ?_
          cases b
          · simp only [Bool.false_eq_true, if_false]; exact Ev.now _
          · simp only [if_true, q1]; exact Ev.now _
        | succ d ih =>
          intro n acc hn ha
          have g1 : (n : Int) < (ps.length : Int) := by omega
          have g0 : (0 : Int) ≤ (n : Int) := by omega
          have e0 : wrap64 ((n : Int) + 1) = ((n + 1 : Nat) : Int) := wrap_up (i := n) (n := 99) (by omega) (by omega)
          have q1 : ¬ (acc.length : Int) = 60 := by omega
          have q2 : acc.length < 2932031007402 := by omega
          obtain ⟨⟨b0, b1, b2, b3, b4, b5, b⟩, h1, h2⟩ := hop n (by omega)
          refine Ev.succ ?_
          simp only [impl_ParseOps.l0, g1, if_true, g0]
          refine Ev.bind h2 ?_
          cases b
          · simp only [Bool.false_eq_true, if_false]; exact Ev.now _
          · simp only [if_true, if_false, q1, q2, e0]
            exact ih (n + 1) (acc ++ [⟨b0, b1, b2, b3, b4, b5⟩]) (by omega) (by simp; omega)
      exact go 60 0 [] rfl rfl
theorem FnExactParseOps : laws_FnExactParseOps.Pure := by
  intro s _
  apply Ev.rounds
  unfold laws_FnExactParseOps.f
  by_cases c : (s.size : Int) > 1048576
  · simp only [c, if_true]; exact Ev.now _
  simp only [c, if_false]
  obtain ⟨⟨xs, b⟩, h1, h2, hx⟩ := both_ParseOps s (by omega)
  dsimp only at hx
  refine Ev.bind h1 (Ev.bind h2 (Ev.bind (ev_eqOpS xs (by omega)) ?_))
  simp only [if_true, bne_self_eq_false]
  apply Ev.succ
  simp only [laws_FnExactParseOps.j0, Bool.false_eq_true, if_false]
  refine Ev.bind (ev_markOpS xs (by omega)) (Ev.bind (ev_heldOpS _ (by omega)) ?_)
  have hy : ¬ ((1 : Int) + 6 * (xs.length : Int) < 0) := by omega
  simp only [hy, if_false, if_true]
  refine Ev.bind h2 (Ev.bind (ev_eqOpS xs (by omega)) ?_)
  simp only [if_true, bne_self_eq_false]
  apply Ev.succ
  simp only [laws_FnExactParseOps.j1, Bool.false_eq_true, if_false]
  refine Ev.bind (ev_heldOpS _ (by omega)) ?_
  simp only [hy, if_false, if_true]
  exact Ev.now _

end Go.Proofs.YtgpmfkmdchcagaaDoor.Pure
