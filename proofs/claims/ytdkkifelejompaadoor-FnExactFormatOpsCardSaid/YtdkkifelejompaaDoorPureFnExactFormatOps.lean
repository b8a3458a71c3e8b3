/- The plain statement of FnExactFormatOps: both functions write the same text of a list of operations, and leave the list as it was. Condition: the list's length is at most maxLen. -/
import Derived.Test.YtdkkifelejompaaDoorGoodFnExactFormatOps
import Derived.Test.YtdkkifelejompaaDoorPlain
namespace Go.Proofs.YtdkkifelejompaaDoor.Pure
open Go.RowKit Go.Proofs.YtdkkifelejompaaDoor.PFnExactFormatOps Go.Proofs.YtdkkifelejompaaDoorW.PrintWords Go.Proofs.YtdkkifelejompaaDoorW.PrintLast Go.Proofs.YtdkkifelejompaaDoor.OpenK Go.Proofs.YtdkkifelejompaaDoor.Plain
set_option linter.unusedVariables false
set_option linter.unusedSimpArgs false

theorem sz_OpS (l : List S23) (a : Int) (h0 : 0 ≤ a) (h1 : a ≤ 1048576) (hl : l.length ≤ 9223372036854775807) : laws_szOpS.f l a = some (if a < l.length then -1 else a - l.length) := by
  unfold laws_szOpS.f
  rw [wrap_in (by omega) (by omega)]
  by_cases h : a < l.length
  · rw [if_pos (by omega), if_pos h]
  · rw [if_neg (by omega), if_neg h]

theorem szx_Op (l : List S23) (a : Int) (h0 : 0 ≤ a) (h1 : a ≤ 1048576) (hl : l.length ≤ 9223372036854775807) : ∃ r, Ev (fun _ => laws_szOpS.f l a) r ∧ r ≤ a ∧ (0 ≤ r → l.length ≤ 1048576) := by
  rw [sz_OpS l a h0 h1 hl]
  refine ⟨_, Ev.now _, ?_, ?_⟩ <;> split <;> omega

def cvOp (x : S23) : S25 := ⟨x.f0, x.f1, x.f2, x.f3, x.f4, x.f5⟩
theorem ev_toOpS (l : List S23) (hl : l.length ≤ 1048576) : Ev (fun k => laws_toOpS.f k l) (l.map cvOp) := by
  have h : Ev (fun k => laws_toOpS.l0 k l (List.replicate l.length z25) ((0 : Nat) : Int)) (l.map cvOp) := by
    refine ev_up (σ := List S25) (fun ys i k => laws_toOpS.l0 k l ys (i : Int)) l.length (fun ys i => Filled (l.map cvOp) ys i) (fun _ _ => l.map cvOp) ?_ ?_ (List.replicate l.length z25) 0 (Nat.zero_le _) (Filled.start _ _ (by simp))
    · intro ys i hi hI ih
      apply Ev.succ
      have h1 : (i : Int) < (l.length : Int) := by omega
      have h2 : (i : Int) < (ys.length : Int) := by have := hI.1; simp at this; omega
      simp only [laws_toOpS.l0, laws_toOp.f, Option.bind_some, h1, h2, Int.natCast_nonneg, if_true, Int.toNat_natCast, wrap_up hi (by omega)]
      exact ih _ (hI.step (by simpa using hi) (by simp [cvOp, rd_T23, hi]))
    · intro ys hI
      apply Ev.succ
      simp only [laws_toOpS.l0, Int.lt_irrefl, if_false]
      exact Ev.some (Filled.done (by simpa using hI))
  unfold laws_toOpS.f
  have h3 : ((l.length : Int) : Int).toNat ≤ 5864062014805 := by omega
  simp only [Int.natCast_nonneg, if_true, h3]
  simpa using h

theorem ev_eqOpS (l : List S25) (hl : l.length ≤ 9223372036854775807) : Ev (fun k => laws_eqOpS.f k l l) true := by
  have h : Ev (fun k => laws_eqOpS.l0 k l l ((0 : Nat) : Int)) true := by
    refine ev_up (σ := Unit) (fun _ i k => laws_eqOpS.l0 k l l (i : Int)) l.length (fun _ _ => True) (fun _ _ => true) ?_ ?_ () 0 (Nat.zero_le _) trivial
    · intro ys i hi hI ih
      apply Ev.succ
      have h1 : (i : Int) < (l.length : Int) := by omega
      simp only [laws_eqOpS.l0, laws_eqOp.f, Option.bind_some, h1, Int.natCast_nonneg, if_true, wrap_up hi hl]
      exact ih () trivial
    · intro ys hI
      apply Ev.succ
      simp only [laws_eqOpS.l0, Int.lt_irrefl, if_false]
      exact Ev.now _
  unfold laws_eqOpS.f
  simp only [if_true]
  exact h


theorem l1In_eq (a b c : Int) : spec_l1In.f a b c = some (decide (b ≤ a) && decide (a ≤ c)) := by
  by_cases h : b ≤ a <;> simp [spec_l1In.f, h]
theorem in_eq (a b c : Int) : impl_in.f a b c = some (decide (b ≤ a) && decide (a ≤ c)) := by
  by_cases h : b ≤ a <;> simp [impl_in.f, h]
set_option maxHeartbeats 8000000 in
theorem both_IsValidOp3 (a0 a1 a2 a3 a4 a5 : Int) : ∃ b, spec_IsValidOp.f 3 a0 a1 a2 a3 a4 a5 = some b ∧ impl_IsValidOp.f 3 a0 a1 a2 a3 a4 a5 = some b ∧ (b = true → (1 ≤ a1 ∧ a1 ≤ 9 ∧ 1 ≤ a0 ∧ a0 ≤ 6 ∧ (a0 = 1 → 1 ≤ a2 ∧ a2 ≤ 4) ∧ (a0 = 2 ∨ a0 = 3 ∨ a0 = 4 → 0 ≤ a3 ∧ a3 ≤ 5) ∧ (a0 = 3 → -1 ≤ a5 ∧ a5 ≤ 99) ∧ (a0 = 4 → a3 ≤ a4 ∧ a4 ≤ 5))) := by
  by_cases c1 : a0 = 1
  · subst c1
    by_cases h3 : a3 = 0 <;> by_cases h4 : a4 = 0 <;> by_cases h5 : a5 = 0 <;> by_cases h1 : 1 ≤ a1 <;> by_cases h1' : a1 ≤ 9 <;> by_cases h2 : 1 ≤ a2 <;> by_cases h2' : a2 ≤ 4 <;>
      simp [spec_IsValidOp.f, impl_IsValidOp.f, spec_IsValidOp.j1, spec_IsValidOp.j2, impl_IsValidOp.j0, impl_isID.f, impl_isScheme.f, l1In_eq, in_eq, h3, h4, h5, h1, h1', h2, h2', eq_comm (a := (0 : Int))]
  by_cases c2 : a0 = 2
  · subst c2
    by_cases h3 : a2 = 0 <;> by_cases h4 : a4 = 0 <;> by_cases h5 : a5 = 0 <;> by_cases h1 : 1 ≤ a1 <;> by_cases h1' : a1 ≤ 9 <;> by_cases h2 : 0 ≤ a3 <;> by_cases h2' : a3 ≤ 5 <;>
      simp [spec_IsValidOp.f, impl_IsValidOp.f, spec_IsValidOp.j1, spec_IsValidOp.j2, impl_IsValidOp.j0, impl_isID.f, impl_isKey.f, l1In_eq, in_eq, h3, h4, h5, h1, h1', h2, h2', eq_comm (a := (0 : Int))]
  by_cases c3 : a0 = 3
  · subst c3
    by_cases h3 : a2 = 0 <;> by_cases h4 : a4 = 0 <;> by_cases h1 : 1 ≤ a1 <;> by_cases h1' : a1 ≤ 9 <;> by_cases h2 : 0 ≤ a3 <;> by_cases h2' : a3 ≤ 5 <;> by_cases h6 : -1 ≤ a5 <;> by_cases h6' : a5 ≤ 99 <;>
      simp [spec_IsValidOp.f, impl_IsValidOp.f, spec_IsValidOp.j1, spec_IsValidOp.j2, impl_IsValidOp.j0, impl_isID.f, impl_isKey.f, impl_isValue.f, l1In_eq, in_eq, h3, h4, h1, h1', h2, h2', h6, h6', eq_comm (a := (0 : Int))]
  by_cases c4 : a0 = 4
  · subst c4
    by_cases h3 : a2 = 0 <;> by_cases h5 : a5 = 0 <;> by_cases h1 : 1 ≤ a1 <;> by_cases h1' : a1 ≤ 9 <;> by_cases h2 : 0 ≤ a3 <;> by_cases h2' : a3 ≤ 5 <;> by_cases h6 : a3 ≤ a4 <;> by_cases h6' : a4 ≤ 5 <;>
      simp [spec_IsValidOp.f, impl_IsValidOp.f, spec_IsValidOp.j1, spec_IsValidOp.j2, impl_IsValidOp.j0, impl_isID.f, impl_isKey.f, l1In_eq, in_eq, h3, h5, h1, h1', h2, h2', h6, h6', eq_comm (a := (0 : Int))]
  by_cases c5 : a0 = 5
  · subst c5
    by_cases h2 : a2 = 0 <;> by_cases h3 : a3 = 0 <;> by_cases h4 : a4 = 0 <;> by_cases h5 : a5 = 0 <;> by_cases h1 : 1 ≤ a1 <;> by_cases h1' : a1 ≤ 9 <;>
      simp [spec_IsValidOp.f, impl_IsValidOp.f, spec_IsValidOp.j1, spec_IsValidOp.j2, spec_IsValidOp.j0, impl_IsValidOp.j0, impl_isID.f, impl_isKey.f, l1In_eq, in_eq, h2, h3, h4, h5, h1, h1', eq_comm (a := (0 : Int))]
  by_cases c6 : a0 = 6
  · subst c6
    by_cases h2 : a2 = 0 <;> by_cases h3 : a3 = 0 <;> by_cases h4 : a4 = 0 <;> by_cases h5 : a5 = 0 <;> by_cases h1 : 1 ≤ a1 <;> by_cases h1' : a1 ≤ 9 <;>
      simp [spec_IsValidOp.f, impl_IsValidOp.f, spec_IsValidOp.j1, spec_IsValidOp.j2, spec_IsValidOp.j0, impl_IsValidOp.j0, impl_isID.f, impl_isKey.f, l1In_eq, in_eq, h2, h3, h4, h5, h1, h1', eq_comm (a := (0 : Int))]
  · have hk : (decide (1 ≤ a0) && decide (a0 ≤ 6)) = false := by
      by_cases d1 : 1 ≤ a0 <;> by_cases d2 : a0 ≤ 6 <;> simp [d1, d2] <;> omega
    simp [spec_IsValidOp.f, impl_IsValidOp.f, spec_IsValidOp.j0, impl_IsValidOp.j0, in_eq, c1, c2, c3, c4, c5, c6, hk]
theorem both_IsValidOp (a0 a1 a2 a3 a4 a5 : Int) : ∃ b, Ev (fun k => spec_IsValidOp.f k a0 a1 a2 a3 a4 a5) b ∧ Ev (fun k => impl_IsValidOp.f k a0 a1 a2 a3 a4 a5) b ∧ (b = true → (1 ≤ a1 ∧ a1 ≤ 9 ∧ 1 ≤ a0 ∧ a0 ≤ 6 ∧ (a0 = 1 → 1 ≤ a2 ∧ a2 ≤ 4) ∧ (a0 = 2 ∨ a0 = 3 ∨ a0 = 4 → 0 ≤ a3 ∧ a3 ≤ 5) ∧ (a0 = 3 → -1 ≤ a5 ∧ a5 ≤ 99) ∧ (a0 = 4 → a3 ≤ a4 ∧ a4 ≤ 5))) := by
  obtain ⟨b, h1, h2, h3⟩ := both_IsValidOp3 a0 a1 a2 a3 a4 a5
  exact ⟨b, Ev.of (spec_IsValidOp.mono _ _ _ _ _ _) h1, Ev.of (impl_IsValidOp.mono _ _ _ _ _ _) h2, h3⟩
theorem fi (n : Int) (h0 : 0 ≤ n) (h1 : n < 100) : ∃ t : ByteArray, Ev (fun k => spec_FormatInt.f k n) t ∧ impl_FormatInt.f n = some t ∧ t.size ≤ 20 := by
  obtain ⟨m, rfl⟩ := Int.eq_ofNat_of_zero_le h0
  have hm : m < 100 := by omega
  have key : ∀ i : Fin 100, spec_FormatInt.f 4 ((i.val : Nat) : Int) = impl_FormatInt.f ((i.val : Nat) : Int) ∧ ((impl_FormatInt.f ((i.val : Nat) : Int)).elim false (fun t => decide (t.size ≤ 20))) = true := by decide +kernel
  obtain ⟨k1, k2⟩ := key ⟨m, hm⟩
  dsimp only at k1 k2
  cases hx : impl_FormatInt.f (m : Int) with
  | none => rw [hx] at k2; exact absurd k2 (by decide)
  | some t => rw [hx] at k1 k2; exact ⟨t, Ev.of (spec_FormatInt.mono _) k1, rfl, of_decide_eq_true k2⟩
theorem fv (n : Int) (h0 : -1 ≤ n) (h1 : n < 100) : ∃ t : ByteArray, Ev (fun k => spec_l3Value.f k n) t ∧ impl_formatValue.f n = some t ∧ t.size ≤ 20 := by
  by_cases h : n = -1
  · subst h
    refine ⟨⟨#[45]⟩, ?_, rfl, by decide⟩
    unfold spec_l3Value.f
    simp only [if_true]; exact Ev.now _
  · obtain ⟨t, e, i, hs⟩ := fi n (by omega) h1
    refine ⟨t, ?_, ?_, hs⟩
    · unfold spec_l3Value.f
      simp only [if_neg h]
      exact Ev.bind e (Ev.now _)
    · unfold impl_formatValue.f
      rw [if_neg h, i]; rfl
theorem fs (n : Int) (h0 : 1 ≤ n) (h1 : n ≤ 4) : ∃ t : ByteArray, spec_SchemeName.f n = some t ∧ impl_SchemeName.f n = some t ∧ t.size ≤ 20 := by
  have key : ∀ i : Fin 5, 1 ≤ i.val → spec_SchemeName.f ((i.val : Nat) : Int) = impl_SchemeName.f ((i.val : Nat) : Int) ∧ ((impl_SchemeName.f ((i.val : Nat) : Int)).elim false (fun t => decide (t.size ≤ 20))) = true := by decide +kernel
  obtain ⟨m, rfl⟩ := Int.eq_ofNat_of_zero_le (show 0 ≤ n by omega)
  have hm : m < 5 := by omega
  obtain ⟨k1, k2⟩ := key ⟨m, hm⟩ (by dsimp only; omega)
  dsimp only at k1 k2
  cases hx : impl_SchemeName.f (m : Int) with
  | none => rw [hx] at k2; exact absurd k2 (by decide)
  | some t => rw [hx] at k1 k2; exact ⟨t, k1, rfl, of_decide_eq_true k2⟩
theorem ex0 : (⟨#[98, 114, 119, 115, 99, 97]⟩ : ByteArray).extract 0 1 = ⟨#[98]⟩ := rfl
theorem ex1 : (⟨#[98, 114, 119, 115, 99, 97]⟩ : ByteArray).extract 1 2 = ⟨#[114]⟩ := rfl
theorem ex2 : (⟨#[98, 114, 119, 115, 99, 97]⟩ : ByteArray).extract 2 3 = ⟨#[119]⟩ := rfl
theorem ex3 : (⟨#[98, 114, 119, 115, 99, 97]⟩ : ByteArray).extract 3 4 = ⟨#[115]⟩ := rfl
theorem ex4 : (⟨#[98, 114, 119, 115, 99, 97]⟩ : ByteArray).extract 4 5 = ⟨#[99]⟩ := rfl
theorem ex5 : (⟨#[98, 114, 119, 115, 99, 97]⟩ : ByteArray).extract 5 6 = ⟨#[97]⟩ := rfl
theorem s1 (b : UInt8) : (⟨#[b]⟩ : ByteArray).size = 1 := rfl
theorem wrap1 (n : Int) (h : 1 ≤ n) (h' : n ≤ 6) : wrap64 (n - 1) = n - 1 := wrap_in (by omega) (by omega)
theorem wq1 : wrap64 ((1 : Int) - 1) = 0 := by rw [wrap_in (by omega) (by omega)]; rfl
theorem wq2 : wrap64 ((2 : Int) - 1) = 1 := by rw [wrap_in (by omega) (by omega)]; rfl
theorem wq3 : wrap64 ((3 : Int) - 1) = 2 := by rw [wrap_in (by omega) (by omega)]; rfl
theorem wq4 : wrap64 ((4 : Int) - 1) = 3 := by rw [wrap_in (by omega) (by omega)]; rfl
theorem wq5 : wrap64 ((5 : Int) - 1) = 4 := by rw [wrap_in (by omega) (by omega)]; rfl
theorem wq6 : wrap64 ((6 : Int) - 1) = 5 := by rw [wrap_in (by omega) (by omega)]; rfl
set_option maxHeartbeats 8000000 in
theorem op_text (a0 a1 a2 a3 a4 a5 : Int) : ∃ (b : Bool) (r : ByteArray), Ev (fun k => spec_FormatOp.f k a0 a1 a2 a3 a4 a5) r ∧ Ev (fun k => impl_IsValidOp.f k a0 a1 a2 a3 a4 a5) b ∧ (b = false → r = ⟨#[]⟩) ∧ (b = true → impl_formatOp.f a0 a1 a2 a3 a4 a5 = some r ∧ 1 ≤ r.size ∧ r.size ≤ 90) := by
  obtain ⟨b, s1', i1, hb⟩ := both_IsValidOp a0 a1 a2 a3 a4 a5
  cases b
  · refine ⟨false, ⟨#[]⟩, ?_, i1, fun _ => rfl, fun h => nomatch h⟩
    unfold spec_FormatOp.f
    refine Ev.bind s1' ?_
    simp only [Bool.false_eq_true, if_false]; exact Ev.now _
  obtain ⟨b1, b1', b0, b0', b2, b3, b5, b4⟩ := hb rfl
  obtain ⟨t, et, it, ht⟩ := fi a1 (by omega) (by omega)
  have main : ∀ r, Ev (fun k => spec_FormatOp.f k a0 a1 a2 a3 a4 a5) r → impl_formatOp.f a0 a1 a2 a3 a4 a5 = some r → 1 ≤ r.size → r.size ≤ 90 → ∃ (b : Bool) (r : ByteArray), Ev (fun k => spec_FormatOp.f k a0 a1 a2 a3 a4 a5) r ∧ Ev (fun k => impl_IsValidOp.f k a0 a1 a2 a3 a4 a5) b ∧ (b = false → r = ⟨#[]⟩) ∧ (b = true → impl_formatOp.f a0 a1 a2 a3 a4 a5 = some r ∧ 1 ≤ r.size ∧ r.size ≤ 90) := fun r h1 h2 h3 h4 => ⟨true, r, h1, i1, fun h => (nomatch h), fun _ => ⟨h2, h3, h4⟩⟩
  obtain rfl | rfl | rfl | rfl | rfl | rfl : a0 = 1 ∨ a0 = 2 ∨ a0 = 3 ∨ a0 = 4 ∨ a0 = 5 ∨ a0 = 6 := by omega
  · obtain ⟨u, eu, iu, hu⟩ := fs a2 (b2 rfl).1 (b2 rfl).2
    refine main ((((⟨#[98]⟩ : ByteArray) ++ t) ++ (⟨#[32]⟩ : ByteArray)) ++ u) ?_ ?_ (by simp only [ByteArray.size_append, s1]; omega) (by simp only [ByteArray.size_append, s1]; omega)
    · unfold spec_FormatOp.f
      refine Ev.bind s1' ?_
      simp only [if_true]
      refine Ev.bind et ?_
      simp (disch := omega) only [if_true, eu, Option.bind_some, ByteArray.size_append, s1, if_pos]
      exact Ev.now _
    · unfold impl_formatOp.f
      simp (disch := omega) only [wq1, it, iu, Option.bind_some, show ((0 : Int)).toNat = 0 from rfl, show ((1 : Int)).toNat = 1 from rfl, ex0, ByteArray.size_append, s1, if_pos]
      exact if_pos trivial
  · obtain ⟨u, eu, iu, hu⟩ := fi a3 (b3 (by omega)).1 (by have := b3 (by omega); omega)
    refine main ((((⟨#[114]⟩ : ByteArray) ++ t) ++ (⟨#[32]⟩ : ByteArray)) ++ u) ?_ ?_ (by simp only [ByteArray.size_append, s1]; omega) (by simp only [ByteArray.size_append, s1]; omega)
    · unfold spec_FormatOp.f
      refine Ev.bind s1' ?_
      simp only [if_true]
      refine Ev.bind et ?_
      simp (disch := omega) only [if_neg, if_pos, ByteArray.size_append, s1]
      refine Ev.bind eu ?_
      simp (disch := omega) only [ByteArray.size_append, s1, if_pos]
      exact Ev.now _
    · unfold impl_formatOp.f
      simp (disch := omega) only [wq2, it, iu, Option.bind_some, show ((1 : Int)).toNat = 1 from rfl, show ((2 : Int)).toNat = 2 from rfl, ex1, ByteArray.size_append, s1, if_pos, if_neg]
      exact if_pos trivial
  · obtain ⟨u, eu, iu, hu⟩ := fi a3 (b3 (by omega)).1 (by have := b3 (by omega); omega)
    obtain ⟨v, ev, iv, hv⟩ := fv a5 (b5 rfl).1 (by have := b5 rfl; omega)
    refine main ((((((⟨#[119]⟩ : ByteArray) ++ t) ++ (⟨#[32]⟩ : ByteArray)) ++ u) ++ (⟨#[32]⟩ : ByteArray)) ++ v) ?_ ?_ (by simp only [ByteArray.size_append, s1]; omega) (by simp only [ByteArray.size_append, s1]; omega)
    · unfold spec_FormatOp.f
      refine Ev.bind s1' ?_
      simp only [if_true]
      refine Ev.bind et ?_
      simp (disch := omega) only [if_neg, if_pos, ByteArray.size_append, s1]
      refine Ev.bind eu ?_
      simp (disch := omega) only [ByteArray.size_append, s1, if_pos]
      refine Ev.bind ev ?_
      simp (disch := omega) only [ByteArray.size_append, s1, if_pos]
      exact Ev.now _
    · unfold impl_formatOp.f
      simp (disch := omega) only [wq3, it, iu, iv, Option.bind_some, show ((2 : Int)).toNat = 2 from rfl, show ((3 : Int)).toNat = 3 from rfl, ex2, ByteArray.size_append, s1, if_pos, if_neg]
      exact if_pos trivial
  · obtain ⟨u, eu, iu, hu⟩ := fi a3 (b3 (by omega)).1 (by have := b3 (by omega); omega)
    obtain ⟨v, ev, iv, hv⟩ := fi a4 (by have := b3 (by omega); have := b4 rfl; omega) (by have := b4 rfl; omega)
    refine main ((((((⟨#[115]⟩ : ByteArray) ++ t) ++ (⟨#[32]⟩ : ByteArray)) ++ u) ++ (⟨#[32]⟩ : ByteArray)) ++ v) ?_ ?_ (by simp only [ByteArray.size_append, s1]; omega) (by simp only [ByteArray.size_append, s1]; omega)
    · unfold spec_FormatOp.f
      refine Ev.bind s1' ?_
      simp only [if_true]
      refine Ev.bind et ?_
      simp (disch := omega) only [if_neg, if_pos, ByteArray.size_append, s1]
      refine Ev.bind eu ?_
      simp (disch := omega) only [ByteArray.size_append, s1, if_pos]
      refine Ev.bind ev ?_
      simp (disch := omega) only [ByteArray.size_append, s1, if_pos]
      exact Ev.now _
    · unfold impl_formatOp.f
      simp (disch := omega) only [wq4, it, iu, iv, Option.bind_some, show ((3 : Int)).toNat = 3 from rfl, show ((4 : Int)).toNat = 4 from rfl, ex3, ByteArray.size_append, s1, if_pos, if_neg]
      exact if_pos trivial
  · refine main ((⟨#[99]⟩ : ByteArray) ++ t) ?_ ?_ (by simp only [ByteArray.size_append, s1]; omega) (by simp only [ByteArray.size_append, s1]; omega)
    · unfold spec_FormatOp.f
      refine Ev.bind s1' ?_
      simp only [if_true]
      refine Ev.bind et ?_
      simp (disch := omega) only [if_neg, if_pos]
      exact Ev.now _
    · unfold impl_formatOp.f
      simp (disch := omega) only [wq5, it, Option.bind_some, show ((4 : Int)).toNat = 4 from rfl, show ((5 : Int)).toNat = 5 from rfl, ex4, ByteArray.size_append, s1, if_pos, if_neg]
  · refine main ((⟨#[97]⟩ : ByteArray) ++ t) ?_ ?_ (by simp only [ByteArray.size_append, s1]; omega) (by simp only [ByteArray.size_append, s1]; omega)
    · unfold spec_FormatOp.f
      refine Ev.bind s1' ?_
      simp only [if_true]
      refine Ev.bind et ?_
      simp (disch := omega) only [if_neg, if_pos]
      exact Ev.now _
    · unfold impl_formatOp.f
      simp (disch := omega) only [wq6, it, Option.bind_some, show ((5 : Int)).toNat = 5 from rfl, show ((6 : Int)).toNat = 6 from rfl, ex5, ByteArray.size_append, s1, if_pos, if_neg]
def JJ (xs : List ByteArray) : List UInt8 := Lib.join (xs.map (·.data.toList)) [59]
theorem JJ_one (t : ByteArray) : JJ ([] ++ [t]) = t.data.toList := by
  show Lib.join [t.data.toList] [59] = _
  exact Lib.join_one _ _
theorem JJ_snoc (xs : List ByteArray) (t : ByteArray) (h : 0 < xs.length) : JJ (xs ++ [t]) = JJ xs ++ [59] ++ t.data.toList := by
  cases xs with
  | nil => exact absurd h (by simp)
  | cons x r =>
    unfold JJ
    simp only [List.cons_append, List.map_cons, List.map_append, List.map_nil, Lib.join_cons]
    have := Lib.joinTail_take_succ [59] (r.map (·.data.toList) ++ [t.data.toList]) r.length t.data.toList (by simp)
    have e1 : (r.map (·.data.toList) ++ [t.data.toList]).take (r.length + 1) = r.map (·.data.toList) ++ [t.data.toList] := List.take_of_length_le (by simp)
    have e2 : (r.map (·.data.toList) ++ [t.data.toList]).take r.length = r.map (·.data.toList) := by rw [List.take_append_of_le_length (by simp), List.take_of_length_le (by simp)]
    rw [e1, e2] at this
    rw [this]
    simp only [List.append_assoc]
theorem cat_data (a b : ByteArray) : (a ++ b).data.toList = a.data.toList ++ b.data.toList := by simp [ByteArray.data_append]
theorem len_data (a : ByteArray) : a.data.toList.length = a.size := Array.length_toList
theorem of_data (a : ByteArray) (x : List UInt8) (h : a.data.toList = x) : a = ⟨x.toArray⟩ := by
  subst h
  cases a; simp
set_option maxHeartbeats 8000000 in
theorem ops_loops (l : List S25) (h60 : l.length ≤ 60) : ∃ r q, Ev (fun k => spec_FormatOps.l0 k l ⟨#[]⟩ ((0 : Nat) : Int)) r ∧ Ev (fun k => impl_FormatOps.l0 k [] l (l.length : Int) ((0 : Nat) : Int)) q ∧ r = q := by
  refine ev_two (σ := ByteArray) (τ := List ByteArray) (fun s i k => spec_FormatOps.l0 k l s (i : Int)) (fun xs i k => impl_FormatOps.l0 k xs l (l.length : Int) (i : Int)) l.length (fun s xs i => xs.length = i ∧ s.data.toList = JJ xs ∧ s.size ≤ 91 * i) (fun r q => r = q) ?_ ?_ ⟨#[]⟩ [] 0 (Nat.zero_le _) ⟨rfl, rfl, by decide⟩
  · rintro s xs i hi ⟨hx, hj, hs⟩ ih
    have h1 : (i : Int) < (l.length : Int) := by omega
    have hle : decide ((l.length : Int) ≤ 60) = true := decide_eq_true (by omega)
    have e0 := wrap_up hi (by omega)
    obtain ⟨b, t, et, ib, hf, ht⟩ := op_text (rd_T25 l (i : Int)).f0 (rd_T25 l (i : Int)).f1 (rd_T25 l (i : Int)).f2 (rd_T25 l (i : Int)).f3 (rd_T25 l (i : Int)).f4 (rd_T25 l (i : Int)).f5
    have sj : ∀ r, Ev (fun k => spec_FormatOps.j1 k l s (i : Int) true) r → Ev (fun k => spec_FormatOps.l0 k l s (i : Int)) r := by
      intro r hr
      apply Ev.succ
      simp only [spec_FormatOps.l0, h1, if_true, hle]; exact hr
    cases b
    · obtain rfl := hf rfl
      refine ⟨⟨#[]⟩, ⟨#[]⟩, sj _ (Ev.succ ?_), Ev.succ ?_, rfl⟩
      · simp only [spec_FormatOps.j1, h1, Int.natCast_nonneg, if_true]
        refine Ev.bind et ?_
        have e : (⟨#[]⟩ : ByteArray).toList = [] := by rw [ByteArray.toList_eq]
        simp only [e, if_true]; exact Ev.now _
      · simp only [impl_FormatOps.l0, h1, Int.natCast_nonneg, if_true]
        refine Ev.bind ib ?_
        simp only [Bool.false_eq_true, if_false]; exact Ev.now _
    · obtain ⟨hfo, t1, t2⟩ := ht rfl
      have ne : ¬ t.toList = [] := by
        intro h
        rw [ByteArray.toList_eq] at h
        have := len_data t
        rw [h] at this
        simp at this; omega
      have hxl : xs.length < 8796093022208 := by omega
      by_cases h0 : 0 < i
      · have h3 : (i : Int) > 0 := by omega
        obtain ⟨r, q, hr, hq, hR⟩ := ih ((s ++ (⟨#[59]⟩ : ByteArray)) ++ t) (xs ++ [t]) ⟨by simp [hx], by
          rw [cat_data, cat_data, hj, JJ_snoc xs t (by omega)], by simp only [ByteArray.size_append, s1]; omega⟩
        have z1 : s.size + 1 ≤ 9223372036854775807 := by omega
        have z2 : (s ++ (⟨#[59]⟩ : ByteArray)).size + t.size ≤ 9223372036854775807 := by simp only [ByteArray.size_append, s1]; omega
        refine ⟨r, q, sj _ (Ev.succ ?_), Ev.succ ?_, hR⟩
        · simp only [spec_FormatOps.j1, h1, Int.natCast_nonneg, if_true]
          refine Ev.bind et ?_
          simp only [ne, if_false, h3, z1, z2, if_true, e0]; exact hr
        · simp only [impl_FormatOps.l0, h1, Int.natCast_nonneg, if_true]
          refine Ev.bind ib ?_
          simp only [if_true, hfo, Option.bind_some, hxl, e0]; exact hq
      · obtain rfl : i = 0 := by omega
        have hx0 : xs = [] := List.eq_nil_of_length_eq_zero hx
        subst hx0
        have h3 : ¬ ((0 : Nat) : Int) > 0 := by omega
        obtain ⟨r, q, hr, hq, hR⟩ := ih (s ++ t) ([] ++ [t]) ⟨rfl, by
          rw [cat_data, hj, JJ_one]; rfl, by simp only [ByteArray.size_append]; omega⟩
        have z2 : s.size + t.size ≤ 9223372036854775807 := by omega
        refine ⟨r, q, sj _ (Ev.succ ?_), Ev.succ ?_, hR⟩
        · simp only [spec_FormatOps.j1, h1, Int.natCast_nonneg, if_true]
          refine Ev.bind et ?_
          simp only [ne, if_false, h3, z2, if_true, e0]; exact hr
        · simp only [impl_FormatOps.l0, h1, Int.natCast_nonneg, if_true]
          refine Ev.bind ib ?_
          simp only [if_true, hfo, Option.bind_some, hxl, e0]; exact hq
  · rintro s xs ⟨hx, hj, hs⟩
    refine ⟨s, s, Ev.succ ?_, Ev.succ ?_, rfl⟩
    · simp only [spec_FormatOps.l0, Int.lt_irrefl, if_false]
      exact Ev.succ (by simp only [spec_FormatOps.j1, Bool.false_eq_true, if_false]; exact Ev.now _)
    · simp only [impl_FormatOps.l0, Int.lt_irrefl, if_false]
      have q0 : xs.length ≤ 140737488355328 := by omega
      have hJ : Lib.join (xs.map (·.data.toList)) (⟨#[59]⟩ : ByteArray).data.toList = s.data.toList := hj.symm
      have q1 : (Lib.join (xs.map (·.data.toList)) (⟨#[59]⟩ : ByteArray).data.toList).length ≤ 140737488355328 := by rw [hJ, len_data]; omega
      have hs' : strings_Join.f xs (⟨#[59]⟩ : ByteArray) = some s := by
        unfold strings_Join.f
        rw [if_pos q0, if_pos q1, hJ, ← of_data s _ rfl]
      simp only [hs', Option.bind_some]; exact Ev.now _
theorem both_FormatOps (l : List S25) (hl : l.length ≤ 1048576) : ∃ r, Ev (fun k => spec_FormatOps.f k l) r ∧ Ev (fun k => impl_FormatOps.f k l) r := by
  by_cases h60 : l.length ≤ 60
  · obtain ⟨r, q, hs, hi, rfl⟩ := ops_loops l h60
    have hn : ¬ (l.length : Int) > 60 := by omega
    refine ⟨r, hs, ?_⟩
    unfold impl_FormatOps.f
    simp only [hn, if_false]; exact hi
  · have hp : (l.length : Int) > 60 := by omega
    have hd : decide ((l.length : Int) ≤ 60) = false := decide_eq_false (by omega)
    refine ⟨⟨#[]⟩, ?_, ?_⟩
    · unfold spec_FormatOps.f
      apply Ev.succ
      have h1 : (0 : Int) < (l.length : Int) := by omega
      simp only [spec_FormatOps.l0, h1, if_true, hd]
      exact Ev.succ (by simp only [spec_FormatOps.j1, Bool.false_eq_true, if_false]; exact Ev.now _)
    · unfold impl_FormatOps.f
      simp only [hp, if_true]; exact Ev.now _
theorem FnExactFormatOps : ∀ (x0 : List (S23)), (okRow PFnExactFormatOps.g23) x0 → ∃ k, laws_FnExactFormatOps.f k x0 = some true := by
  intro l hl
  have hm : l.length ≤ 9223372036854775807 := by have := hl.1; simp only [maxLen] at this; omega
  apply Ev.rounds
  unfold laws_FnExactFormatOps.f
  simp only [sz_OpS l 1048576 (by omega) (by omega) hm, Option.bind_some]
  by_cases h : (1048576 : Int) < l.length
  · simp only [h, if_true]
    exact Ev.some rfl
  · have hs : l.length ≤ 1048576 := by omega
    have h0 : ¬ ((1048576 : Int) - l.length < 0) := by omega
    simp only [h, h0, if_false]
    obtain ⟨r, e1, e2⟩ := both_FormatOps (l.map cvOp) (by simpa using hs)
    refine Ev.bind (ev_toOpS l hs) (Ev.bind e1 (Ev.bind (ev_toOpS l hs) (Ev.bind e2 ?_)))
    simp only [if_true]
    refine Ev.bind (ev_toOpS l hs) (Ev.bind (ev_eqOpS _ (by simpa using hm)) ?_)
    simp only [if_true]
    exact Ev.some rfl

end Go.Proofs.YtdkkifelejompaaDoor.Pure
