/- The plain statement of FnExactFormatStep: both functions write the same text of a step, and leave its values as they were. Condition: the row's length is at most maxLen. -/
import Derived.Test.YtdkkifelejompaaDoorGoodFnExactFormatStep
import Derived.Test.YtdkkifelejompaaDoorPlain
namespace Go.Proofs.YtdkkifelejompaaDoor.Pure
open Go.RowKit Go.Proofs.YtdkkifelejompaaDoor.PFnExactFormatStep Go.Proofs.YtdkkifelejompaaDoorW.PrintWords Go.Proofs.YtdkkifelejompaaDoorW.PrintLast Go.Proofs.YtdkkifelejompaaDoor.OpenK Go.Proofs.YtdkkifelejompaaDoor.Plain
set_option linter.unusedVariables false
set_option linter.unusedSimpArgs false

theorem sz_IntS (l : List Int) (a : Int) (h0 : 0 ≤ a) (h1 : a ≤ 1048576) (hl : l.length ≤ 9223372036854775807) : laws_szIntS.f l a = some (if a < l.length then -1 else a - l.length) := by
  unfold laws_szIntS.f
  rw [wrap_in (by omega) (by omega)]
  by_cases h : a < l.length
  · rw [if_pos (by omega), if_pos h]
  · rw [if_neg (by omega), if_neg h]

theorem szx_Int (l : List Int) (a : Int) (h0 : 0 ≤ a) (h1 : a ≤ 1048576) (hl : l.length ≤ 9223372036854775807) : ∃ r, Ev (fun _ => laws_szIntS.f l a) r ∧ r ≤ a ∧ (0 ≤ r → l.length ≤ 1048576) := by
  rw [sz_IntS l a h0 h1 hl]
  refine ⟨_, Ev.now _, ?_, ?_⟩ <;> split <;> omega

theorem ev_eqIntS (l : List Int) (hl : l.length ≤ 9223372036854775807) : Ev (fun k => laws_eqIntS.f k l l) true := by
  have h : Ev (fun k => laws_eqIntS.l0 k l l ((0 : Nat) : Int)) true := by
    refine ev_up (σ := Unit) (fun _ i k => laws_eqIntS.l0 k l l (i : Int)) l.length (fun _ _ => True) (fun _ _ => true) ?_ ?_ () 0 (Nat.zero_le _) trivial
    · intro ys i hi hI ih
      apply Ev.succ
      have h1 : (i : Int) < (l.length : Int) := by omega
      simp only [laws_eqIntS.l0, Option.bind_some, h1, Int.natCast_nonneg, if_true, wrap_up hi hl]
      exact ih () trivial
    · intro ys hI
      apply Ev.succ
      simp only [laws_eqIntS.l0, Int.lt_irrefl, if_false]
      exact Ev.now _
  unfold laws_eqIntS.f
  simp only [if_true]
  exact h

theorem ev_toIntS (l : List Int) (hl : l.length ≤ 1048576) : Ev (fun k => laws_toIntS.f k l) l := by
  have h : Ev (fun k => laws_toIntS.l0 k l (List.replicate l.length 0) ((0 : Nat) : Int)) l := by
    refine ev_up (σ := List Int) (fun ys i k => laws_toIntS.l0 k l ys (i : Int)) l.length (fun ys i => Filled l ys i) (fun _ _ => l) ?_ ?_ (List.replicate l.length 0) 0 (Nat.zero_le _) (Filled.start _ _ (by simp))
    · intro ys i hi hI ih
      apply Ev.succ
      have h1 : (i : Int) < (l.length : Int) := by omega
      have h2 : (i : Int) < (ys.length : Int) := by have := hI.1; omega
      simp only [laws_toIntS.l0, h1, h2, Int.natCast_nonneg, if_true, Int.toNat_natCast, wrap_up hi (by omega)]
      exact ih _ (hI.step hi (by simp [rd, hi]))
    · intro ys hI
      apply Ev.succ
      simp only [laws_toIntS.l0, Int.lt_irrefl, if_false]
      exact Ev.some (Filled.done hI)
  unfold laws_toIntS.f
  have h3 : ((l.length : Int) : Int).toNat ≤ 35184372088832 := by omega
  simp only [Int.natCast_nonneg, if_true, h3]
  simpa using h


theorem l1In_eq (a b c : Int) : spec_l1In.f a b c = some (decide (b ≤ a) && decide (a ≤ c)) := by
  by_cases h : b ≤ a <;> simp [spec_l1In.f, h]
theorem in_eq (a b c : Int) : impl_in.f a b c = some (decide (b ≤ a) && decide (a ≤ c)) := by
  by_cases h : b ≤ a <;> simp [impl_in.f, h]
theorem s1 (b : UInt8) : (⟨#[b]⟩ : ByteArray).size = 1 := rfl
theorem fi (n : Int) (h0 : 0 ≤ n) (h1 : n < 100) : ∃ t : ByteArray, Ev (fun k => spec_FormatInt.f k n) t ∧ impl_FormatInt.f n = some t ∧ 1 ≤ t.size ∧ t.size ≤ 20 := by
  obtain ⟨m, rfl⟩ := Int.eq_ofNat_of_zero_le h0
  have hm : m < 100 := by omega
  have key : ∀ i : Fin 100, spec_FormatInt.f 4 ((i.val : Nat) : Int) = impl_FormatInt.f ((i.val : Nat) : Int) ∧ ((impl_FormatInt.f ((i.val : Nat) : Int)).elim false (fun t => decide (1 ≤ t.size ∧ t.size ≤ 20))) = true := by decide +kernel
  obtain ⟨k1, k2⟩ := key ⟨m, hm⟩
  dsimp only at k1 k2
  cases hx : impl_FormatInt.f (m : Int) with
  | none => rw [hx] at k2; exact absurd k2 (by decide)
  | some t => rw [hx] at k1 k2; exact ⟨t, Ev.of (spec_FormatInt.mono _) k1, rfl, of_decide_eq_true k2⟩
theorem fv (n : Int) (h0 : -1 ≤ n) (h1 : n < 100) : ∃ t : ByteArray, Ev (fun k => spec_l3Value.f k n) t ∧ impl_formatValue.f n = some t ∧ 1 ≤ t.size ∧ t.size ≤ 20 := by
  by_cases h : n = -1
  · subst h
    refine ⟨⟨#[45]⟩, ?_, rfl, by decide⟩
    unfold spec_l3Value.f
    simp only [if_true]; exact Ev.now _
  · obtain ⟨t, e, i, hs⟩ := fi n (by omega) h1
    refine ⟨t, ?_, ?_, hs⟩
    · unfold spec_l3Value.f
      simp only [if_neg h]
      exact Ev.bind e (Ev.now _)
    · unfold impl_formatValue.f
      rw [if_neg h, i]; rfl
theorem cn (n : Int) : ∃ t : ByteArray, spec_CodeName.f n = some t ∧ impl_CodeName.f n = some t ∧ t.size ≤ 20 := by
  by_cases h : 0 ≤ n ∧ n ≤ 6
  · have key : ∀ i : Fin 7, spec_CodeName.f ((i.val : Nat) : Int) = impl_CodeName.f ((i.val : Nat) : Int) ∧ ((impl_CodeName.f ((i.val : Nat) : Int)).elim false (fun t => decide (t.size ≤ 20))) = true := by decide +kernel
    obtain ⟨m, rfl⟩ := Int.eq_ofNat_of_zero_le h.1
    obtain ⟨k1, k2⟩ := key ⟨m, by omega⟩
    dsimp only at k1 k2
    cases hx : impl_CodeName.f (m : Int) with
    | none => rw [hx] at k2; exact absurd k2 (by decide)
    | some t => rw [hx] at k1 k2; exact ⟨t, k1, rfl, of_decide_eq_true k2⟩
  · have hb : (decide (0 ≤ n) && decide (n ≤ 6)) = false := by
      rw [Bool.and_eq_false_iff, decide_eq_false_iff_not, decide_eq_false_iff_not]; omega
    refine ⟨⟨#[]⟩, ?_, ?_, by decide⟩
    · unfold spec_CodeName.f; simp only [l1In_eq, hb, Option.bind_some, Bool.false_eq_true, if_false]
    · unfold impl_CodeName.f; simp only [in_eq, hb, Option.bind_some, Bool.false_eq_true, if_false]
def JJ (xs : List ByteArray) : List UInt8 := Lib.join (xs.map (·.data.toList)) [32]
theorem JJ_one (t : ByteArray) : JJ ([] ++ [t]) = t.data.toList := by
  show Lib.join [t.data.toList] [32] = _
  exact Lib.join_one _ _
theorem JJ_snoc (xs : List ByteArray) (t : ByteArray) (h : 0 < xs.length) : JJ (xs ++ [t]) = JJ xs ++ [32] ++ t.data.toList := by
  cases xs with
  | nil => exact absurd h (by simp)
  | cons x r =>
    unfold JJ
    simp only [List.cons_append, List.map_cons, List.map_append, List.map_nil, Lib.join_cons]
    have := Lib.joinTail_take_succ [32] (r.map (·.data.toList) ++ [t.data.toList]) r.length t.data.toList (by simp)
    have e1 : (r.map (·.data.toList) ++ [t.data.toList]).take (r.length + 1) = r.map (·.data.toList) ++ [t.data.toList] := List.take_of_length_le (by simp)
    have e2 : (r.map (·.data.toList) ++ [t.data.toList]).take r.length = r.map (·.data.toList) := by rw [List.take_append_of_le_length (by simp), List.take_of_length_le (by simp)]
    rw [e1, e2] at this
    rw [this]
    simp only [List.append_assoc]
theorem cat_data (a b : ByteArray) : (a ++ b).data.toList = a.data.toList ++ b.data.toList := by simp [ByteArray.data_append]
theorem len_data (a : ByteArray) : a.data.toList.length = a.size := Array.length_toList
theorem of_data (a : ByteArray) (x : List UInt8) (h : a.data.toList = x) : a = ⟨x.toArray⟩ := by
  subst h
  cases a; simp
set_option maxHeartbeats 8000000 in
theorem st_texts (l : List Int) (h6 : l.length ≤ 6) : ∃ r q, Ev (fun k => spec_FormatState.l0 k l ⟨#[]⟩ ((0 : Nat) : Int)) r ∧ Ev (fun k => impl_FormatState.l0 k [] l (l.length : Int) ((0 : Nat) : Int)) q ∧ (r = q ∧ r.size ≤ 200) := by
  refine ev_two (σ := ByteArray) (τ := List ByteArray) (fun s i k => spec_FormatState.l0 k l s (i : Int)) (fun xs i k => impl_FormatState.l0 k xs l (l.length : Int) (i : Int)) l.length (fun s xs i => xs.length = i ∧ s.data.toList = JJ xs ∧ s.size ≤ 21 * i) (fun r q => r = q ∧ r.size ≤ 200) ?_ ?_ ⟨#[]⟩ [] 0 (Nat.zero_le _) ⟨rfl, rfl, by decide⟩
  · rintro s xs i hi ⟨hx, hj, hs⟩ ih
    have h1 : (i : Int) < (l.length : Int) := by omega
    have e0 := wrap_up hi (by omega)
    by_cases hv : -1 ≤ rd l (i : Int) ∧ rd l (i : Int) ≤ 99
    · have hb : (decide (-1 ≤ rd l (i : Int)) && decide (rd l (i : Int) ≤ 99)) = true := by simp [hv.1, hv.2]
      obtain ⟨t, et, it, t1, t2⟩ := fv (rd l (i : Int)) hv.1 (by omega)
      have hxl : xs.length < 8796093022208 := by omega
      by_cases h0 : 0 < i
      · have h3 : (i : Int) > 0 := by omega
        obtain ⟨r, q, hr, hq, hR⟩ := ih ((s ++ (⟨#[32]⟩ : ByteArray)) ++ t) (xs ++ [t]) ⟨by simp [hx], by
          rw [cat_data, cat_data, hj, JJ_snoc xs t (by omega)], by simp only [ByteArray.size_append, s1]; omega⟩
        have z1 : s.size + 1 ≤ 9223372036854775807 := by omega
        have z2 : (s ++ (⟨#[32]⟩ : ByteArray)).size + t.size ≤ 9223372036854775807 := by simp only [ByteArray.size_append, s1]; omega
        refine ⟨r, q, Ev.succ ?_, Ev.succ ?_, hR⟩
        · simp only [spec_FormatState.l0, h1, Int.natCast_nonneg, if_true, l1In_eq, hb, Option.bind_some, h3, z1]
          refine Ev.bind et ?_
          simp only [z2, if_true, e0]; exact hr
        · simp only [impl_FormatState.l0, h1, Int.natCast_nonneg, if_true, impl_isValue.f, in_eq, hb, Option.bind_some, it, hxl, e0]; exact hq
      · obtain rfl : i = 0 := by omega
        have hx0 : xs = [] := List.eq_nil_of_length_eq_zero hx
        subst hx0
        have h3 : ¬ ((0 : Nat) : Int) > 0 := by omega
        obtain ⟨r, q, hr, hq, hR⟩ := ih (s ++ t) ([] ++ [t]) ⟨rfl, by
          rw [cat_data, hj, JJ_one]; rfl, by simp only [ByteArray.size_append]; omega⟩
        have z2 : s.size + t.size ≤ 9223372036854775807 := by omega
        refine ⟨r, q, Ev.succ ?_, Ev.succ ?_, hR⟩
        · simp only [spec_FormatState.l0, h1, Int.natCast_nonneg, if_true, l1In_eq, hb, Option.bind_some, h3, if_false]
          refine Ev.bind et ?_
          simp only [z2, if_true, e0]; exact hr
        · simp only [impl_FormatState.l0, h1, Int.natCast_nonneg, if_true, impl_isValue.f, in_eq, hb, Option.bind_some, it, hxl, e0]; exact hq
    · have hb : (decide (-1 ≤ rd l (i : Int)) && decide (rd l (i : Int) ≤ 99)) = false := by
        rw [Bool.and_eq_false_iff, decide_eq_false_iff_not, decide_eq_false_iff_not]; omega
      refine ⟨⟨#[]⟩, ⟨#[]⟩, Ev.succ ?_, Ev.succ ?_, rfl, by decide⟩
      · simp only [spec_FormatState.l0, h1, Int.natCast_nonneg, if_true, l1In_eq, hb, Option.bind_some, Bool.false_eq_true, if_false]; exact Ev.now _
      · simp only [impl_FormatState.l0, h1, Int.natCast_nonneg, if_true, impl_isValue.f, in_eq, hb, Option.bind_some, Bool.false_eq_true, if_false]; exact Ev.now _
  · rintro s xs ⟨hx, hj, hs⟩
    refine ⟨s, s, Ev.succ ?_, Ev.succ ?_, rfl, by omega⟩
    · simp only [spec_FormatState.l0, Int.lt_irrefl, if_false]; exact Ev.now _
    · simp only [impl_FormatState.l0, Int.lt_irrefl, if_false]
      have q0 : xs.length ≤ 140737488355328 := by omega
      have hJ : Lib.join (xs.map (·.data.toList)) (⟨#[32]⟩ : ByteArray).data.toList = s.data.toList := hj.symm
      have q1 : (Lib.join (xs.map (·.data.toList)) (⟨#[32]⟩ : ByteArray).data.toList).length ≤ 140737488355328 := by rw [hJ, len_data]; omega
      have hs' : strings_Join.f xs (⟨#[32]⟩ : ByteArray) = some s := by
        unfold strings_Join.f
        rw [if_pos q0, if_pos q1, hJ, ← of_data s _ rfl]
      simp only [hs', Option.bind_some]; exact Ev.now _
set_option maxHeartbeats 8000000 in
theorem st_valid (l : List Int) (h6 : l.length ≤ 6) : ∃ r q, Ev (fun k => spec_FormatState.l0 k l ⟨#[]⟩ ((0 : Nat) : Int)) r ∧ Ev (fun k => slices_IndexFunc_int_int.l0 k l (l.length : Int) ((0 : Nat) : Int)) q ∧ ((q < 0 ∧ (0 < l.length → 1 ≤ r.size)) ∨ (0 ≤ q ∧ r = ⟨#[]⟩)) := by
  refine ev_two (σ := ByteArray) (τ := Unit) (fun s i k => spec_FormatState.l0 k l s (i : Int)) (fun _ i k => slices_IndexFunc_int_int.l0 k l (l.length : Int) (i : Int)) l.length (fun s _ i => s.size ≤ 21 * i ∧ (0 < i → 1 ≤ s.size)) (fun r q => (q < 0 ∧ (0 < l.length → 1 ≤ r.size)) ∨ (0 ≤ q ∧ r = ⟨#[]⟩)) ?_ ?_ ⟨#[]⟩ () 0 (Nat.zero_le _) ⟨by decide, fun h => absurd h (by omega)⟩
  · rintro s _ i hi ⟨hs, hp⟩ ih
    have h1 : (i : Int) < (l.length : Int) := by omega
    have e0 := wrap_up hi (by omega)
    by_cases hv : -1 ≤ rd l (i : Int) ∧ rd l (i : Int) ≤ 99
    · have hb : (decide (-1 ≤ rd l (i : Int)) && decide (rd l (i : Int) ≤ 99)) = true := by simp [hv.1, hv.2]
      obtain ⟨t, et, it, t1, t2⟩ := fv (rd l (i : Int)) hv.1 (by omega)
      by_cases h0 : 0 < i
      · have h3 : (i : Int) > 0 := by omega
        obtain ⟨r, q, hr, hq, hR⟩ := ih ((s ++ (⟨#[32]⟩ : ByteArray)) ++ t) () ⟨by simp only [ByteArray.size_append, s1]; omega, fun _ => by simp only [ByteArray.size_append, s1]; omega⟩
        have z1 : s.size + 1 ≤ 9223372036854775807 := by omega
        have z2 : (s ++ (⟨#[32]⟩ : ByteArray)).size + t.size ≤ 9223372036854775807 := by simp only [ByteArray.size_append, s1]; omega
        refine ⟨r, q, Ev.succ ?_, Ev.succ ?_, hR⟩
        · simp only [spec_FormatState.l0, h1, Int.natCast_nonneg, if_true, l1In_eq, hb, Option.bind_some, h3, z1]
          refine Ev.bind et ?_
          simp only [z2, if_true, e0]; exact hr
        · simp only [slices_IndexFunc_int_int.l0, impl_FormatStep_1.f, h1, Int.natCast_nonneg, if_true, impl_isValue.f, in_eq, hb, Option.bind_some, Bool.not_true, Bool.false_eq_true, if_false, e0]; exact hq
      · obtain rfl : i = 0 := by omega
        have h3 : ¬ ((0 : Nat) : Int) > 0 := by omega
        obtain ⟨r, q, hr, hq, hR⟩ := ih (s ++ t) () ⟨by simp only [ByteArray.size_append]; omega, fun _ => by simp only [ByteArray.size_append]; omega⟩
        have z2 : s.size + t.size ≤ 9223372036854775807 := by omega
        refine ⟨r, q, Ev.succ ?_, Ev.succ ?_, hR⟩
        · simp only [spec_FormatState.l0, h1, Int.natCast_nonneg, if_true, l1In_eq, hb, Option.bind_some, h3, if_false]
          refine Ev.bind et ?_
          simp only [z2, if_true, e0]; exact hr
        · simp only [slices_IndexFunc_int_int.l0, impl_FormatStep_1.f, h1, Int.natCast_nonneg, if_true, impl_isValue.f, in_eq, hb, Option.bind_some, Bool.not_true, Bool.false_eq_true, if_false, e0]; exact hq
    · have hb : (decide (-1 ≤ rd l (i : Int)) && decide (rd l (i : Int) ≤ 99)) = false := by
        rw [Bool.and_eq_false_iff, decide_eq_false_iff_not, decide_eq_false_iff_not]; omega
      refine ⟨⟨#[]⟩, (i : Int), Ev.succ ?_, Ev.succ ?_, .inr ⟨Int.natCast_nonneg i, rfl⟩⟩
      · simp only [spec_FormatState.l0, h1, Int.natCast_nonneg, if_true, l1In_eq, hb, Option.bind_some, Bool.false_eq_true, if_false]; exact Ev.now _
      · simp only [slices_IndexFunc_int_int.l0, impl_FormatStep_1.f, h1, Int.natCast_nonneg, if_true, impl_isValue.f, in_eq, hb, Option.bind_some, Bool.not_false]; exact Ev.now _
  · rintro s _ ⟨hs, hp⟩
    refine ⟨s, -1, Ev.succ ?_, Ev.succ ?_, .inl ⟨by decide, hp⟩⟩
    · simp only [spec_FormatState.l0, Int.lt_irrefl, if_false]; exact Ev.now _
    · simp only [slices_IndexFunc_int_int.l0, Int.lt_irrefl, if_false]; exact Ev.now _
theorem nil_text : (⟨#[]⟩ : ByteArray).toList = [] := by rw [ByteArray.toList_eq]
theorem ne_text {t : ByteArray} (h : 1 ≤ t.size) : ¬ t.toList = [] := by
  intro hh
  rw [ByteArray.toList_eq] at hh
  have := len_data t
  rw [hh] at this
  simp at this; omega
theorem both_FormatStep (a : Int) (l : List Int) : ∃ r, Ev (fun k => spec_FormatStep.f k a l) r ∧ Ev (fun k => impl_FormatStep.f k a l) r := by
  obtain ⟨c, sc, ic, hc⟩ := cn a
  have sT : Ev (fun k => spec_FormatStep.j0 k c true l) ⟨#[]⟩ := Ev.succ (by simp only [spec_FormatStep.j0, if_true]; exact Ev.now _)
  have iT : Ev (fun k => impl_FormatStep.j0 k c true l) ⟨#[]⟩ := Ev.succ (by simp only [impl_FormatStep.j0, if_true]; exact Ev.now _)
  unfold spec_FormatStep.f impl_FormatStep.f
  simp only [sc, ic, Option.bind_some]
  by_cases h : c.toList = []
  · simp only [if_pos h]; exact ⟨_, sT, iT⟩
  simp only [if_neg h]
  by_cases h6 : (l.length : Int) > 6
  · simp only [h6, decide_true, if_true]; exact ⟨_, sT, iT⟩
  have hd : decide ((l.length : Int) > 6) = false := decide_eq_false h6
  have hl : l.length ≤ 6 := by omega
  simp only [h6, hd, if_false]
  obtain ⟨r, q, hr, hq, rfl, hr2⟩ := st_texts l hl
  obtain ⟨r', q', hr', hq', hR⟩ := st_valid l hl
  obtain rfl := Ev.uniq hr' hr
  have hcf : Ev (fun k => slices_ContainsFunc_int_int.f k l) (decide (q' ≥ 0)) := by
    unfold slices_ContainsFunc_int_int.f slices_IndexFunc_int_int.f
    exact Ev.bind hq' (Ev.now _)
  rcases hR with ⟨hn, hp⟩ | ⟨hn, he⟩
  · have hg : decide (q' ≥ 0) = false := decide_eq_false (by omega)
    rw [hg] at hcf
    by_cases hz : (l.length : Int) = 0
    · have hz2 : ¬ (l.length : Int) > 0 := by omega
      refine ⟨c, Ev.succ ?_, Ev.bind hcf (Ev.succ ?_)⟩
      · simp only [spec_FormatStep.j0, Bool.false_eq_true, if_false, hz, if_true]; exact Ev.now _
      · simp only [impl_FormatStep.j0, Bool.false_eq_true, if_false, hz2]; exact Ev.now _
    · have hz2 : (l.length : Int) > 0 := by omega
      have hp1 := hp (by omega)
      have z1 : c.size + 1 ≤ 9223372036854775807 := by omega
      have z2 : (c ++ (⟨#[32]⟩ : ByteArray)).size + r'.size ≤ 9223372036854775807 := by simp only [ByteArray.size_append, s1]; omega
      have z3 : 1 + r'.size ≤ 9223372036854775807 := by omega
      have z4 : c.size + ((⟨#[32]⟩ : ByteArray) ++ r').size ≤ 9223372036854775807 := by simp only [ByteArray.size_append, s1]; omega
      have hac : c ++ ((⟨#[32]⟩ : ByteArray) ++ r') = (c ++ (⟨#[32]⟩ : ByteArray)) ++ r' := ByteArray.append_assoc.symm
      refine ⟨(c ++ (⟨#[32]⟩ : ByteArray)) ++ r', Ev.succ ?_, Ev.bind hcf (Ev.succ ?_)⟩
      · simp only [spec_FormatStep.j0, Bool.false_eq_true, if_false, hz]
        refine Ev.bind (show Ev (fun k => spec_FormatState.f k l) r' from hr') ?_
        simp only [ne_text hp1, if_false, z1, z2, if_true]; exact Ev.now _
      · simp only [impl_FormatStep.j0, Bool.false_eq_true, if_false, hz2, if_true]
        refine Ev.bind (show Ev (fun k => impl_FormatState.f k l) r' from hq) ?_
        simp only [z3, z4, if_true, hac]; exact Ev.now _
  · have hg : decide (q' ≥ 0) = true := decide_eq_true (by omega)
    rw [hg] at hcf
    have hz : ¬ (l.length : Int) = 0 := by
      intro hz
      have hnil : l = [] := List.eq_nil_of_length_eq_zero (by omega)
      subst hnil
      have : Ev (fun k => slices_IndexFunc_int_int.l0 k [] (([] : List Int).length : Int) ((0 : Nat) : Int)) (-1) := Ev.succ (by simp only [slices_IndexFunc_int_int.l0, List.length_nil, Int.lt_irrefl, if_false]; exact Ev.now _)
      have := Ev.uniq this hq'
      omega
    refine ⟨⟨#[]⟩, Ev.succ ?_, Ev.bind hcf iT⟩
    simp only [spec_FormatStep.j0, Bool.false_eq_true, if_false, hz]
    refine Ev.bind (show Ev (fun k => spec_FormatState.f k l) r' from hr') ?_
    subst he
    simp only [nil_text, if_true]; exact Ev.now _
theorem FnExactFormatStep : ∀ (x0_0 : Int) (x0_1 : List (Int)), (okInt .i64) x0_0 → (okRow (okInt .i64)) x0_1 → ∃ k, laws_FnExactFormatStep.f k x0_0 x0_1 = some true := by
  intro a l _ hl
  have hm : l.length ≤ 9223372036854775807 := by have := hl.1; simp only [maxLen] at this; omega
  apply Ev.rounds
  unfold laws_FnExactFormatStep.f laws_szStep.f
  simp only [sz_IntS l 1048576 (by omega) (by omega) hm, Option.bind_some]
  by_cases h : (1048576 : Int) < l.length
  · simp only [h, if_true, show ((-1 : Int) < 0) from by decide, Option.bind_some]
    exact Ev.some rfl
  · have hs : l.length ≤ 1048576 := by omega
    have h0 : ¬ ((1048576 : Int) - l.length < 0) := by omega
    simp only [h, h0, if_false, Option.bind_some]
    obtain ⟨r, e1, e2⟩ := both_FormatStep a l
    have hto : Ev (fun k => laws_toStep.f k a l) (a, l) := by
      unfold laws_toStep.f
      exact Ev.bind (ev_toIntS l hs) (Ev.now _)
    refine Ev.bind hto (Ev.bind e1 (Ev.bind hto (Ev.bind e2 ?_)))
    simp only [if_true]
    refine Ev.bind hto ?_
    unfold laws_eqStep.f
    simp only [if_true]
    refine Ev.bind (a := true) (Ev.bind (ev_eqIntS l hm) ?_) ?_
    · simp only [if_true]; exact Ev.now _
    · simp only [if_true]; exact Ev.some rfl

end Go.Proofs.YtdkkifelejompaaDoor.Pure
