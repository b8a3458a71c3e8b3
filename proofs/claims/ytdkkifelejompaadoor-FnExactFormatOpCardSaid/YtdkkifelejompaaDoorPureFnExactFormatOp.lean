/- The plain statement of FnExactFormatOp: both functions write the same text of an operation. No condition. -/
import Derived.Test.YtdkkifelejompaaDoorGoodFnExactFormatOp
import Derived.Test.YtdkkifelejompaaDoorPlain
namespace Go.Proofs.YtdkkifelejompaaDoor.Pure
open Go.RowKit Go.Proofs.YtdkkifelejompaaDoor.PFnExactFormatOp Go.Proofs.YtdkkifelejompaaDoorW.PrintWords Go.Proofs.YtdkkifelejompaaDoorW.PrintLast Go.Proofs.YtdkkifelejompaaDoor.OpenK Go.Proofs.YtdkkifelejompaaDoor.Plain
set_option linter.unusedVariables false
set_option linter.unusedSimpArgs false


theorem l1In_eq (a b c : Int) : spec_l1In.f a b c = some (decide (b ≤ a) && decide (a ≤ c)) := by
  by_cases h : b ≤ a <;> simp [spec_l1In.f, h]
theorem in_eq (a b c : Int) : impl_in.f a b c = some (decide (b ≤ a) && decide (a ≤ c)) := by
  by_cases h : b ≤ a <;> simp [impl_in.f, h]
set_option maxHeartbeats 8000000 in
theorem both_IsValidOp3 (a0 a1 a2 a3 a4 a5 : Int) : ∃ b, spec_IsValidOp.f 3 a0 a1 a2 a3 a4 a5 = some b ∧ impl_IsValidOp.f 3 a0 a1 a2 a3 a4 a5 = some b ∧ (b = true → (1 ≤ a1 ∧ a1 ≤ 9 ∧ 1 ≤ a0 ∧ a0 ≤ 6 ∧ (a0 = 1 → 1 ≤ a2 ∧ a2 ≤ 4) ∧ (a0 = 2 ∨ a0 = 3 ∨ a0 = 4 → 0 ≤ a3 ∧ a3 ≤ 5) ∧ (a0 = 3 → -1 ≤ a5 ∧ a5 ≤ 99) ∧ (a0 = 4 → a3 ≤ a4 ∧ a4 ≤ 5))) := by
  by_cases c1 : a0 = 1
  · subst c1
    by_cases h3 : a3 = 0 <;> by_cases h4 : a4 = 0 <;> by_cases h5 : a5 = 0 <;> by_cases h1 : 1 ≤ a1 <;> by_cases h1' : a1 ≤ 9 <;> by_cases h2 : 1 ≤ a2 <;> by_cases h2' : a2 ≤ 4 <;>
      simp [spec_IsValidOp.f, impl_IsValidOp.f, spec_IsValidOp.j1, spec_IsValidOp.j2, impl_IsValidOp.j0, impl_isID.f, impl_isScheme.f, l1In_eq, in_eq, h3, h4, h5, h1, h1', h2, h2', eq_comm (a := (0 : Int))]
  by_cases c2 : a0 = 2
  · subst c2
    by_cases h3 : a2 = 0 <;> by_cases h4 : a4 = 0 <;> by_cases h5 : a5 = 0 <;> by_cases h1 : 1 ≤ a1 <;> by_cases h1' : a1 ≤ 9 <;> by_cases h2 : 0 ≤ a3 <;> by_cases h2' : a3 ≤ 5 <;>
      simp [spec_IsValidOp.f, impl_IsValidOp.f, spec_IsValidOp.j1, spec_IsValidOp.j2, impl_IsValidOp.j0, impl_isID.f, impl_isKey.f, l1In_eq, in_eq, h3, h4, h5, h1, h1', h2, h2', eq_comm (a := (0 : Int))]
  by_cases c3 : a0 = 3
  · subst c3
    by_cases h3 : a2 = 0 <;> by_cases h4 : a4 = 0 <;> by_cases h1 : 1 ≤ a1 <;> by_cases h1' : a1 ≤ 9 <;> by_cases h2 : 0 ≤ a3 <;> by_cases h2' : a3 ≤ 5 <;> by_cases h6 : -1 ≤ a5 <;> by_cases h6' : a5 ≤ 99 <;>
      simp [spec_IsValidOp.f, impl_IsValidOp.f, spec_IsValidOp.j1, spec_IsValidOp.j2, impl_IsValidOp.j0, impl_isID.f, impl_isKey.f, impl_isValue.f, l1In_eq, in_eq, h3, h4, h1, h1', h2, h2', h6, h6', eq_comm (a := (0 : Int))]
  by_cases c4 : a0 = 4
  · subst c4
    by_cases h3 : a2 = 0 <;> by_cases h5 : a5 = 0 <;> by_cases h1 : 1 ≤ a1 <;> by_cases h1' : a1 ≤ 9 <;> by_cases h2 : 0 ≤ a3 <;> by_cases h2' : a3 ≤ 5 <;> by_cases h6 : a3 ≤ a4 <;> by_cases h6' : a4 ≤ 5 <;>
      simp [spec_IsValidOp.f, impl_IsValidOp.f, spec_IsValidOp.j1, spec_IsValidOp.j2, impl_IsValidOp.j0, impl_isID.f, impl_isKey.f, l1In_eq, in_eq, h3, h5, h1, h1', h2, h2', h6, h6', eq_comm (a := (0 : Int))]
  by_cases c5 : a0 = 5
  · subst c5
    by_cases h2 : a2 = 0 <;> by_cases h3 : a3 = 0 <;> by_cases h4 : a4 = 0 <;> by_cases h5 : a5 = 0 <;> by_cases h1 : 1 ≤ a1 <;> by_cases h1' : a1 ≤ 9 <;>
      simp [spec_IsValidOp.f, impl_IsValidOp.f, spec_IsValidOp.j1, spec_IsValidOp.j2, spec_IsValidOp.j0, impl_IsValidOp.j0, impl_isID.f, impl_isKey.f, l1In_eq, in_eq, h2, h3, h4, h5, h1, h1', eq_comm (a := (0 : Int))]
  by_cases c6 : a0 = 6
  · subst c6
    by_cases h2 : a2 = 0 <;> by_cases h3 : a3 = 0 <;> by_cases h4 : a4 = 0 <;> by_cases h5 : a5 = 0 <;> by_cases h1 : 1 ≤ a1 <;> by_cases h1' : a1 ≤ 9 <;>
      simp [spec_IsValidOp.f, impl_IsValidOp.f, spec_IsValidOp.j1, spec_IsValidOp.j2, spec_IsValidOp.j0, impl_IsValidOp.j0, impl_isID.f, impl_isKey.f, l1In_eq, in_eq, h2, h3, h4, h5, h1, h1', eq_comm (a := (0 : Int))]
  · have hk : (decide (1 ≤ a0) && decide (a0 ≤ 6)) = false := by
      by_cases d1 : 1 ≤ a0 <;> by_cases d2 : a0 ≤ 6 <;> simp [d1, d2] <;> omega
    simp [spec_IsValidOp.f, impl_IsValidOp.f, spec_IsValidOp.j0, impl_IsValidOp.j0, in_eq, c1, c2, c3, c4, c5, c6, hk]
theorem both_IsValidOp (a0 a1 a2 a3 a4 a5 : Int) : ∃ b, Ev (fun k => spec_IsValidOp.f k a0 a1 a2 a3 a4 a5) b ∧ Ev (fun k => impl_IsValidOp.f k a0 a1 a2 a3 a4 a5) b ∧ (b = true → (1 ≤ a1 ∧ a1 ≤ 9 ∧ 1 ≤ a0 ∧ a0 ≤ 6 ∧ (a0 = 1 → 1 ≤ a2 ∧ a2 ≤ 4) ∧ (a0 = 2 ∨ a0 = 3 ∨ a0 = 4 → 0 ≤ a3 ∧ a3 ≤ 5) ∧ (a0 = 3 → -1 ≤ a5 ∧ a5 ≤ 99) ∧ (a0 = 4 → a3 ≤ a4 ∧ a4 ≤ 5))) := by
  obtain ⟨b, h1, h2, h3⟩ := both_IsValidOp3 a0 a1 a2 a3 a4 a5
  exact ⟨b, Ev.of (spec_IsValidOp.mono _ _ _ _ _ _) h1, Ev.of (impl_IsValidOp.mono _ _ _ _ _ _) h2, h3⟩
theorem fi (n : Int) (h0 : 0 ≤ n) (h1 : n < 100) : ∃ t : ByteArray, Ev (fun k => spec_FormatInt.f k n) t ∧ impl_FormatInt.f n = some t ∧ t.size ≤ 20 := by
  obtain ⟨m, rfl⟩ := Int.eq_ofNat_of_zero_le h0
  have hm : m < 100 := by omega
  have key : ∀ i : Fin 100, spec_FormatInt.f 4 ((i.val : Nat) : Int) = impl_FormatInt.f ((i.val : Nat) : Int) ∧ ((impl_FormatInt.f ((i.val : Nat) : Int)).elim false (fun t => decide (t.size ≤ 20))) = true := by decide +kernel
  obtain ⟨k1, k2⟩ := key ⟨m, hm⟩
  dsimp only at k1 k2
  cases hx : impl_FormatInt.f (m : Int) with
  | none => rw [hx] at k2; exact absurd k2 (by decide)
  | some t => rw [hx] at k1 k2; exact ⟨t, Ev.of (spec_FormatInt.mono _) k1, rfl, of_decide_eq_true k2⟩
theorem fv (n : Int) (h0 : -1 ≤ n) (h1 : n < 100) : ∃ t : ByteArray, Ev (fun k => spec_l3Value.f k n) t ∧ impl_formatValue.f n = some t ∧ t.size ≤ 20 := by
  by_cases h : n = -1
  · subst h
    refine ⟨⟨#[45]⟩, ?_, rfl, by decide⟩
    unfold spec_l3Value.f
    simp only [if_true]; exact Ev.now _
  · obtain ⟨t, e, i, hs⟩ := fi n (by omega) h1
    refine ⟨t, ?_, ?_, hs⟩
    · unfold spec_l3Value.f
      simp only [if_neg h]
      exact Ev.bind e (Ev.now _)
    · unfold impl_formatValue.f
      rw [if_neg h, i]; rfl
theorem fs (n : Int) (h0 : 1 ≤ n) (h1 : n ≤ 4) : ∃ t : ByteArray, spec_SchemeName.f n = some t ∧ impl_SchemeName.f n = some t ∧ t.size ≤ 20 := by
  have key : ∀ i : Fin 5, 1 ≤ i.val → spec_SchemeName.f ((i.val : Nat) : Int) = impl_SchemeName.f ((i.val : Nat) : Int) ∧ ((impl_SchemeName.f ((i.val : Nat) : Int)).elim false (fun t => decide (t.size ≤ 20))) = true := by decide +kernel
  obtain ⟨m, rfl⟩ := Int.eq_ofNat_of_zero_le (show 0 ≤ n by omega)
  have hm : m < 5 := by omega
  obtain ⟨k1, k2⟩ := key ⟨m, hm⟩ (by dsimp only; omega)
  dsimp only at k1 k2
  cases hx : impl_SchemeName.f (m : Int) with
  | none => rw [hx] at k2; exact absurd k2 (by decide)
  | some t => rw [hx] at k1 k2; exact ⟨t, k1, rfl, of_decide_eq_true k2⟩
theorem ex0 : (⟨#[98, 114, 119, 115, 99, 97]⟩ : ByteArray).extract 0 1 = ⟨#[98]⟩ := rfl
theorem ex1 : (⟨#[98, 114, 119, 115, 99, 97]⟩ : ByteArray).extract 1 2 = ⟨#[114]⟩ := rfl
theorem ex2 : (⟨#[98, 114, 119, 115, 99, 97]⟩ : ByteArray).extract 2 3 = ⟨#[119]⟩ := rfl
theorem ex3 : (⟨#[98, 114, 119, 115, 99, 97]⟩ : ByteArray).extract 3 4 = ⟨#[115]⟩ := rfl
theorem ex4 : (⟨#[98, 114, 119, 115, 99, 97]⟩ : ByteArray).extract 4 5 = ⟨#[99]⟩ := rfl
theorem ex5 : (⟨#[98, 114, 119, 115, 99, 97]⟩ : ByteArray).extract 5 6 = ⟨#[97]⟩ := rfl
theorem s1 (b : UInt8) : (⟨#[b]⟩ : ByteArray).size = 1 := rfl
theorem wrap1 (n : Int) (h : 1 ≤ n) (h' : n ≤ 6) : wrap64 (n - 1) = n - 1 := wrap_in (by omega) (by omega)
theorem wq1 : wrap64 ((1 : Int) - 1) = 0 := by rw [wrap_in (by omega) (by omega)]; rfl
theorem wq2 : wrap64 ((2 : Int) - 1) = 1 := by rw [wrap_in (by omega) (by omega)]; rfl
theorem wq3 : wrap64 ((3 : Int) - 1) = 2 := by rw [wrap_in (by omega) (by omega)]; rfl
theorem wq4 : wrap64 ((4 : Int) - 1) = 3 := by rw [wrap_in (by omega) (by omega)]; rfl
theorem wq5 : wrap64 ((5 : Int) - 1) = 4 := by rw [wrap_in (by omega) (by omega)]; rfl
theorem wq6 : wrap64 ((6 : Int) - 1) = 5 := by rw [wrap_in (by omega) (by omega)]; rfl
set_option maxHeartbeats 8000000 in
theorem both_FormatOp (a0 a1 a2 a3 a4 a5 : Int) : ∃ r : ByteArray, Ev (fun k => spec_FormatOp.f k a0 a1 a2 a3 a4 a5) r ∧ Ev (fun k => impl_FormatOp.f k a0 a1 a2 a3 a4 a5) r := by
  obtain ⟨b, s1', i1, hb⟩ := both_IsValidOp a0 a1 a2 a3 a4 a5
  cases b
  · refine ⟨⟨#[]⟩, ?_, ?_⟩
    · unfold spec_FormatOp.f
      refine Ev.bind s1' ?_
      simp only [Bool.false_eq_true, if_false]; exact Ev.now _
    · unfold impl_FormatOp.f
      refine Ev.bind i1 ?_
      simp only [Bool.false_eq_true, if_false]; exact Ev.now _
  obtain ⟨b1, b1', b0, b0', b2, b3, b5, b4⟩ := hb rfl
  obtain ⟨t, et, it, ht⟩ := fi a1 (by omega) (by omega)
  have main : ∀ r, Ev (fun k => spec_FormatOp.f k a0 a1 a2 a3 a4 a5) r → impl_formatOp.f a0 a1 a2 a3 a4 a5 = some r → ∃ r : ByteArray, Ev (fun k => spec_FormatOp.f k a0 a1 a2 a3 a4 a5) r ∧ Ev (fun k => impl_FormatOp.f k a0 a1 a2 a3 a4 a5) r := by
    intro r h1 h2
    refine ⟨r, h1, ?_⟩
    unfold impl_FormatOp.f
    refine Ev.bind i1 ?_
    simp only [if_true, h2, Option.bind_some]; exact Ev.now _
  obtain rfl | rfl | rfl | rfl | rfl | rfl : a0 = 1 ∨ a0 = 2 ∨ a0 = 3 ∨ a0 = 4 ∨ a0 = 5 ∨ a0 = 6 := by omega
  · obtain ⟨u, eu, iu, hu⟩ := fs a2 (b2 rfl).1 (b2 rfl).2
    refine main ((((⟨#[98]⟩ : ByteArray) ++ t) ++ (⟨#[32]⟩ : ByteArray)) ++ u) ?_ ?_
    · unfold spec_FormatOp.f
      refine Ev.bind s1' ?_
      simp only [if_true]
      refine Ev.bind et ?_
      simp (disch := omega) only [if_true, eu, Option.bind_some, ByteArray.size_append, s1, if_pos]
      exact Ev.now _
    · unfold impl_formatOp.f
      simp (disch := omega) only [wq1, it, iu, Option.bind_some, show ((0 : Int)).toNat = 0 from rfl, show ((1 : Int)).toNat = 1 from rfl, ex0, ByteArray.size_append, s1, if_pos]
      exact if_pos trivial
  · obtain ⟨u, eu, iu, hu⟩ := fi a3 (b3 (by omega)).1 (by have := b3 (by omega); omega)
    refine main ((((⟨#[114]⟩ : ByteArray) ++ t) ++ (⟨#[32]⟩ : ByteArray)) ++ u) ?_ ?_
    · unfold spec_FormatOp.f
      refine Ev.bind s1' ?_
      simp only [if_true]
      refine Ev.bind et ?_
      simp (disch := omega) only [if_neg, if_pos, ByteArray.size_append, s1]
      refine Ev.bind eu ?_
      simp (disch := omega) only [ByteArray.size_append, s1, if_pos]
      exact Ev.now _
    · unfold impl_formatOp.f
      simp (disch := omega) only [wq2, it, iu, Option.bind_some, show ((1 : Int)).toNat = 1 from rfl, show ((2 : Int)).toNat = 2 from rfl, ex1, ByteArray.size_append, s1, if_pos, if_neg]
      exact if_pos trivial
  · obtain ⟨u, eu, iu, hu⟩ := fi a3 (b3 (by omega)).1 (by have := b3 (by omega); omega)
    obtain ⟨v, ev, iv, hv⟩ := fv a5 (b5 rfl).1 (by have := b5 rfl; omega)
    refine main ((((((⟨#[119]⟩ : ByteArray) ++ t) ++ (⟨#[32]⟩ : ByteArray)) ++ u) ++ (⟨#[32]⟩ : ByteArray)) ++ v) ?_ ?_
    · unfold spec_FormatOp.f
      refine Ev.bind s1' ?_
      simp only [if_true]
      refine Ev.bind et ?_
      simp (disch := omega) only [if_neg, if_pos, ByteArray.size_append, s1]
      refine Ev.bind eu ?_
      simp (disch := omega) only [ByteArray.size_append, s1, if_pos]
      refine Ev.bind ev ?_
      simp (disch := omega) only [ByteArray.size_append, s1, if_pos]
      exact Ev.now _
    · unfold impl_formatOp.f
      simp (disch := omega) only [wq3, it, iu, iv, Option.bind_some, show ((2 : Int)).toNat = 2 from rfl, show ((3 : Int)).toNat = 3 from rfl, ex2, ByteArray.size_append, s1, if_pos, if_neg]
      exact if_pos trivial
  · obtain ⟨u, eu, iu, hu⟩ := fi a3 (b3 (by omega)).1 (by have := b3 (by omega); omega)
    obtain ⟨v, ev, iv, hv⟩ := fi a4 (by have := b3 (by omega); have := b4 rfl; omega) (by have := b4 rfl; omega)
    refine main ((((((⟨#[115]⟩ : ByteArray) ++ t) ++ (⟨#[32]⟩ : ByteArray)) ++ u) ++ (⟨#[32]⟩ : ByteArray)) ++ v) ?_ ?_
    · unfold spec_FormatOp.f
      refine Ev.bind s1' ?_
      simp only [if_true]
      refine Ev.bind et ?_
      simp (disch := omega) only [if_neg, if_pos, ByteArray.size_append, s1]
      refine Ev.bind eu ?_
      simp (disch := omega) only [ByteArray.size_append, s1, if_pos]
      refine Ev.bind ev ?_
      simp (disch := omega) only [ByteArray.size_append, s1, if_pos]
      exact Ev.now _
    · unfold impl_formatOp.f
      simp (disch := omega) only [wq4, it, iu, iv, Option.bind_some, show ((3 : Int)).toNat = 3 from rfl, show ((4 : Int)).toNat = 4 from rfl, ex3, ByteArray.size_append, s1, if_pos, if_neg]
      exact if_pos trivial
  · refine main ((⟨#[99]⟩ : ByteArray) ++ t) ?_ ?_
    · unfold spec_FormatOp.f
      refine Ev.bind s1' ?_
      simp only [if_true]
      refine Ev.bind et ?_
      simp (disch := omega) only [if_neg, if_pos]
      exact Ev.now _
    · unfold impl_formatOp.f
      simp (disch := omega) only [wq5, it, Option.bind_some, show ((4 : Int)).toNat = 4 from rfl, show ((5 : Int)).toNat = 5 from rfl, ex4, ByteArray.size_append, s1, if_pos, if_neg]
  · refine main ((⟨#[97]⟩ : ByteArray) ++ t) ?_ ?_
    · unfold spec_FormatOp.f
      refine Ev.bind s1' ?_
      simp only [if_true]
      refine Ev.bind et ?_
      simp (disch := omega) only [if_neg, if_pos]
      exact Ev.now _
    · unfold impl_formatOp.f
      simp (disch := omega) only [wq6, it, Option.bind_some, show ((5 : Int)).toNat = 5 from rfl, show ((6 : Int)).toNat = 6 from rfl, ex5, ByteArray.size_append, s1, if_pos, if_neg]
theorem FnExactFormatOp : ∀ (x0_0 : Int) (x0_1 : Int) (x0_2 : Int) (x0_3 : Int) (x0_4 : Int) (x0_5 : Int), (okInt .i64) x0_0 → (okInt .i64) x0_1 → (okInt .i64) x0_2 → (okInt .i64) x0_3 → (okInt .i64) x0_4 → (okInt .i64) x0_5 → ∃ k, laws_FnExactFormatOp.f k x0_0 x0_1 x0_2 x0_3 x0_4 x0_5 = some true := by
  intro a0 a1 a2 a3 a4 a5 _ _ _ _ _ _
  apply Ev.rounds
  unfold laws_FnExactFormatOp.f
  obtain ⟨r, s, i⟩ := both_FormatOp a0 a1 a2 a3 a4 a5
  simp only [laws_toOp.f, Option.bind_some]
  refine Ev.bind s (Ev.bind i ?_)
  simp only [if_true]
  exact Ev.now _

end Go.Proofs.YtdkkifelejompaaDoor.Pure
