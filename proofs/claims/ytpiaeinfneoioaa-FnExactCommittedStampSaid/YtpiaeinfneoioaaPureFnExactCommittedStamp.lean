/- The plain statement of FnExactCommittedStamp: both functions call the same transactions valid; a valid one that is not committed has the stamp 0. Condition: the rows' lengths are at most maxLen. -/
import Derived.Test.YtpiaeinfneoioaaGoodFnExactCommittedStamp
import Derived.Test.YtpiaeinfneoioaaPlain
namespace Go.Proofs.Ytpiaeinfneoioaa.Pure
open Go.RowKit Go.Proofs.Ytpiaeinfneoioaa.PFnExactCommittedStamp Go.Proofs.YtpiaeinfneoioaaW.PrintWords Go.Proofs.YtpiaeinfneoioaaW.PrintLast Go.Proofs.Ytpiaeinfneoioaa.OpenK Go.Proofs.Ytpiaeinfneoioaa.Plain
set_option linter.unusedVariables false
set_option linter.unusedSimpArgs false

theorem sz_ReadMarkS (l : List S30) (a : Int) (h0 : 0 ≤ a) (h1 : a ≤ 1048576) (hl : l.length ≤ 9223372036854775807) : laws_szReadMarkS.f l a = some (if a < l.length then -1 else a - l.length) := by
  unfold laws_szReadMarkS.f
  rw [wrap_in (by omega) (by omega)]
  by_cases h : a < l.length
  · rw [if_pos (by omega), if_pos h]
  · rw [if_neg (by omega), if_neg h]

theorem szx_ReadMark (l : List S30) (a : Int) (h0 : 0 ≤ a) (h1 : a ≤ 1048576) (hl : l.length ≤ 9223372036854775807) : ∃ r, Ev (fun _ => laws_szReadMarkS.f l a) r ∧ r ≤ a ∧ (0 ≤ r → l.length ≤ 1048576) := by
  rw [sz_ReadMarkS l a h0 h1 hl]
  refine ⟨_, Ev.now _, ?_, ?_⟩ <;> split <;> omega

theorem sz_WriteS (l : List S208) (a : Int) (h0 : 0 ≤ a) (h1 : a ≤ 1048576) (hl : l.length ≤ 9223372036854775807) : laws_szWriteS.f l a = some (if a < l.length then -1 else a - l.length) := by
  unfold laws_szWriteS.f
  rw [wrap_in (by omega) (by omega)]
  by_cases h : a < l.length
  · rw [if_pos (by omega), if_pos h]
  · rw [if_neg (by omega), if_neg h]

theorem szx_Write (l : List S208) (a : Int) (h0 : 0 ≤ a) (h1 : a ≤ 1048576) (hl : l.length ≤ 9223372036854775807) : ∃ r, Ev (fun _ => laws_szWriteS.f l a) r ∧ r ≤ a ∧ (0 ≤ r → l.length ≤ 1048576) := by
  rw [sz_WriteS l a h0 h1 hl]
  refine ⟨_, Ev.now _, ?_, ?_⟩ <;> split <;> omega

def cvReadMark (x : S30) : S32 := ⟨x.f0, x.f1⟩
theorem ev_toReadMarkS (l : List S30) (hl : l.length ≤ 1048576) : Ev (fun k => laws_toReadMarkS.f k l) (l.map cvReadMark) := by
  have h : Ev (fun k => laws_toReadMarkS.l0 k l (List.replicate l.length z32) ((0 : Nat) : Int)) (l.map cvReadMark) := by
    refine ev_up (σ := List S32) (fun ys i k => laws_toReadMarkS.l0 k l ys (i : Int)) l.length (fun ys i => Filled (l.map cvReadMark) ys i) (fun _ _ => l.map cvReadMark) ?_ ?_ (List.replicate l.length z32) 0 (Nat.zero_le _) (Filled.start _ _ (by simp))
    · intro ys i hi hI ih
      apply Ev.succ
      have h1 : (i : Int) < (l.length : Int) := by omega
      have h2 : (i : Int) < (ys.length : Int) := by have := hI.1; simp at this; omega
      simp only [laws_toReadMarkS.l0, laws_toReadMark.f, Option.bind_some, h1, h2, Int.natCast_nonneg, if_true, Int.toNat_natCast, wrap_up hi (by omega)]
      exact ih _ (hI.step (by simpa using hi) (by simp [cvReadMark, rd_T30, hi]))
    · intro ys hI
      apply Ev.succ
      simp only [laws_toReadMarkS.l0, Int.lt_irrefl, if_false]
      exact Ev.some (Filled.done (by simpa using hI))
  unfold laws_toReadMarkS.f
  have h3 : ((l.length : Int) : Int).toNat ≤ 17592186044416 := by omega
  simp only [Int.natCast_nonneg, if_true, h3]
  simpa using h

def cvWrite (x : S208) : S132 := ⟨x.f0, x.f1⟩
theorem ev_toWriteS (l : List S208) (hl : l.length ≤ 1048576) : Ev (fun k => laws_toWriteS.f k l) (l.map cvWrite) := by
  have h : Ev (fun k => laws_toWriteS.l0 k l (List.replicate l.length z132) ((0 : Nat) : Int)) (l.map cvWrite) := by
    refine ev_up (σ := List S132) (fun ys i k => laws_toWriteS.l0 k l ys (i : Int)) l.length (fun ys i => Filled (l.map cvWrite) ys i) (fun _ _ => l.map cvWrite) ?_ ?_ (List.replicate l.length z132) 0 (Nat.zero_le _) (Filled.start _ _ (by simp))
    · intro ys i hi hI ih
      apply Ev.succ
      have h1 : (i : Int) < (l.length : Int) := by omega
      have h2 : (i : Int) < (ys.length : Int) := by have := hI.1; simp at this; omega
      simp only [laws_toWriteS.l0, laws_toWrite.f, Option.bind_some, h1, h2, Int.natCast_nonneg, if_true, Int.toNat_natCast, wrap_up hi (by omega)]
      exact ih _ (hI.step (by simpa using hi) (by simp [cvWrite, rd_T208, hi]))
    · intro ys hI
      apply Ev.succ
      simp only [laws_toWriteS.l0, Int.lt_irrefl, if_false]
      exact Ev.some (Filled.done (by simpa using hI))
  unfold laws_toWriteS.f
  have h3 : ((l.length : Int) : Int).toNat ≤ 17592186044416 := by omega
  simp only [Int.natCast_nonneg, if_true, h3]
  simpa using h

theorem ev_eqReadMarkS (l : List S32) (hl : l.length ≤ 9223372036854775807) : Ev (fun k => laws_eqReadMarkS.f k l l) true := by
  have h : Ev (fun k => laws_eqReadMarkS.l0 k l l ((0 : Nat) : Int)) true := by
    refine ev_up (σ := Unit) (fun _ i k => laws_eqReadMarkS.l0 k l l (i : Int)) l.length (fun _ _ => True) (fun _ _ => true) ?_ ?_ () 0 (Nat.zero_le _) trivial
    · intro ys i hi hI ih
      apply Ev.succ
      have h1 : (i : Int) < (l.length : Int) := by omega
      simp only [laws_eqReadMarkS.l0, laws_eqReadMark.f, Option.bind_some, h1, Int.natCast_nonneg, if_true, wrap_up hi hl]
      exact ih () trivial
    · intro ys hI
      apply Ev.succ
      simp only [laws_eqReadMarkS.l0, Int.lt_irrefl, if_false]
      exact Ev.now _
  unfold laws_eqReadMarkS.f
  simp only [if_true]
  exact h

theorem ev_eqWriteS (l : List S132) (hl : l.length ≤ 9223372036854775807) : Ev (fun k => laws_eqWriteS.f k l l) true := by
  have h : Ev (fun k => laws_eqWriteS.l0 k l l ((0 : Nat) : Int)) true := by
    refine ev_up (σ := Unit) (fun _ i k => laws_eqWriteS.l0 k l l (i : Int)) l.length (fun _ _ => True) (fun _ _ => true) ?_ ?_ () 0 (Nat.zero_le _) trivial
    · intro ys i hi hI ih
      apply Ev.succ
      have h1 : (i : Int) < (l.length : Int) := by omega
      simp only [laws_eqWriteS.l0, laws_eqWrite.f, Option.bind_some, h1, Int.natCast_nonneg, if_true, wrap_up hi hl]
      exact ih () trivial
    · intro ys hI
      apply Ev.succ
      simp only [laws_eqWriteS.l0, Int.lt_irrefl, if_false]
      exact Ev.now _
  unfold laws_eqWriteS.f
  simp only [if_true]
  exact h


theorem l1In_eq (a b c : Int) : spec_l1In.f a b c = some (decide (b ≤ a) && decide (a ≤ c)) := by
  by_cases h : b ≤ a <;> simp [spec_l1In.f, h]
theorem in_eq (a b c : Int) : impl_in.f a b c = some (decide (b ≤ a) && decide (a ≤ c)) := by
  by_cases h : b ≤ a <;> simp [impl_in.f, h]
theorem compare_eq (a b : Int) : cmp_Compare_int.f a b = some (if a < b then -1 else if a > b then 1 else 0) := by
  by_cases h : a < b <;> by_cases h' : a > b <;> simp [cmp_Compare_int.f, cmp_isNaN_int.f, h, h']
theorem ev_or (x y : Int) : Ev (fun k => cmp_Or_int.f k [x, y]) (if x = 0 then y else x) := by
  show Ev (fun k => cmp_Or_int.l0 k 0 [x, y] (2 : Int) 0) _
  apply Ev.succ
  by_cases hx : x = 0
  · simp only [cmp_Or_int.l0, hx, rd, wrap64, if_true]
    apply Ev.succ
    by_cases hy : y = 0
    · subst hy
      simp [cmp_Or_int.l0, rd, wrap64]
      apply Ev.succ
      simp [cmp_Or_int.l0]; exact Ev.now _
    · simp [cmp_Or_int.l0, rd, wrap64, hy]; exact Ev.now _
  · simp [cmp_Or_int.l0, rd, hx]; exact Ev.now _
theorem ev_cmp (a b c d : Int) : ∃ v, Ev (fun k => impl_compareMarks.f k a b c d) v ∧ spec_l5Before.f a b c d = some (decide (v < 0)) := by
  refine ⟨if (if a < c then -1 else if a > c then 1 else 0) = (0 : Int) then (if b < d then -1 else if b > d then 1 else 0) else (if a < c then -1 else if a > c then 1 else 0), ?_, ?_⟩
  · unfold impl_compareMarks.f
    simp only [compare_eq, Option.bind_some]
    exact Ev.bind (ev_or _ _) (Ev.now _)
  · unfold spec_l5Before.f
    by_cases h1 : a < c
    · simp [h1]
    · by_cases h2 : a > c
      · have h3 : ¬ a = c := by omega
        simp [h1, h2, h3]
      · have h3 : a = c := by omega
        by_cases h4 : b < d
        · simp [h3, h4]
        · by_cases h5 : b > d <;> simp [h3, h4, h5]
theorem both_reads (a0 a1 a2 a3 a4 a5 a6 : Int) (rs : List S32) (ws : List S132) (hl : rs.length ≤ 1048576) (r : Bool) (hr : Ev (fun k => spec_IsValidTransaction.l1 k 0 a0 a1 a2 a3 a4 a5 a6 rs ws) r) :
    ∃ x y, Ev (fun k => impl_areReads.f k rs) x ∧ Ev (fun k => spec_IsValidTransaction.l0 k ((0 : Nat) : Int) a0 a1 a2 a3 a4 a5 a6 rs ws) y ∧ ∃ rb : Bool, x = (rb && decide ((rs.length : Int) ≤ 60)) ∧ y = (rb && r) := by
  refine ev_two (σ := Unit) (τ := Unit) (fun _ i k => impl_areReads.l0 k rs rs (rs.length : Int) (i : Int)) (fun _ i k => spec_IsValidTransaction.l0 k (i : Int) a0 a1 a2 a3 a4 a5 a6 rs ws) rs.length (fun _ _ _ => True) (fun x y => ∃ rb : Bool, x = (rb && decide ((rs.length : Int) ≤ 60)) ∧ y = (rb && r)) ?_ ?_ () () 0 (Nat.zero_le _) trivial
  · intro _ _ i hi _ ih
    have h1 : (i : Int) < (rs.length : Int) := by omega
    have e0 := wrap_up hi (by omega)
    obtain ⟨x, y, hx, hy, rb, rfl, rfl⟩ := ih () () trivial
    have iT : Ev (fun k => impl_areReads.j1 k rs (i : Int) rs (rs.length : Int) true) false := Ev.succ (by simp only [impl_areReads.j1, if_true]; exact Ev.now _)
    have sT : Ev (fun k => spec_IsValidTransaction.j1 k (i : Int) true a0 a1 a2 a3 a4 a5 a6 rs ws) false := Ev.succ (by simp only [spec_IsValidTransaction.j1, if_true]; exact Ev.now _)
    have iF : Ev (fun k => impl_areReads.j1 k rs (i : Int) rs (rs.length : Int) false) (rb && decide ((rs.length : Int) ≤ 60)) := Ev.succ (by simp only [impl_areReads.j1, Bool.false_eq_true, if_false, e0]; exact hx)
    have sF : Ev (fun k => spec_IsValidTransaction.j1 k (i : Int) false a0 a1 a2 a3 a4 a5 a6 rs ws) (rb && r) := Ev.succ (by simp only [spec_IsValidTransaction.j1, Bool.false_eq_true, if_false, e0]; exact hy)
    by_cases ck : (decide (0 ≤ (rd_T32 rs (i : Int)).f0) && decide ((rd_T32 rs (i : Int)).f0 ≤ 5)) = true
    rotate_left 1
    · refine ⟨false, false, Ev.succ ?_, Ev.succ ?_, false, by simp, by simp⟩
      · simp only [impl_areReads.l0, impl_isKey.f, in_eq, h1, ck, Int.natCast_nonneg, if_true, if_false, Option.bind_some]; exact iT
      · simp only [spec_IsValidTransaction.l0, l1In_eq, h1, ck, Int.natCast_nonneg, if_true, if_false, Option.bind_some]; exact sT
    by_cases cc : (decide (0 ≤ (rd_T32 rs (i : Int)).f1) && decide ((rd_T32 rs (i : Int)).f1 ≤ 999)) = true
    rotate_left 1
    · refine ⟨false, false, Ev.succ ?_, Ev.succ ?_, false, by simp, by simp⟩
      · simp only [impl_areReads.l0, impl_isKey.f, in_eq, h1, ck, cc, Int.natCast_nonneg, if_true, if_false, Option.bind_some]; exact iT
      · simp only [spec_IsValidTransaction.l0, l1In_eq, h1, ck, cc, Int.natCast_nonneg, if_true, if_false, Option.bind_some]; exact sT
    by_cases h0 : 0 < i
    · have e1 : wrap64 ((i : Int) - 1) = ((i - 1 : Nat) : Int) := wrap_down h0 (by omega)
      have h2 : ((i - 1 : Nat) : Int) < (rs.length : Int) := by omega
      have h3 : (i : Int) > 0 := by omega
      obtain ⟨v, ev, hb⟩ := ev_cmp (rd_T32 rs ((i - 1 : Nat) : Int)).f0 (rd_T32 rs ((i - 1 : Nat) : Int)).f1 (rd_T32 rs (i : Int)).f0 (rd_T32 rs (i : Int)).f1
      by_cases hv : v < 0
      · have hv' : ¬ v ≥ 0 := by omega
        refine ⟨(rb && decide ((rs.length : Int) ≤ 60)), (rb && r), Ev.succ ?_, Ev.succ ?_, rb, rfl, rfl⟩
        · simp only [impl_areReads.l0, impl_isKey.f, in_eq, h1, h2, h3, e1, ck, cc, Int.natCast_nonneg, if_true, Option.bind_some]
          refine Ev.bind ev ?_
          simp only [hv', decide_false]; exact iF
        · simp only [spec_IsValidTransaction.l0, l1In_eq, hb, hv, h1, h2, h3, e1, ck, cc, Int.natCast_nonneg, if_true, Option.bind_some, decide_true, Bool.not_true]; exact sF
      · have hv' : v ≥ 0 := by omega
        refine ⟨false, false, Ev.succ ?_, Ev.succ ?_, false, by simp, by simp⟩
        · simp only [impl_areReads.l0, impl_isKey.f, in_eq, h1, h2, h3, e1, ck, cc, Int.natCast_nonneg, if_true, Option.bind_some]
          refine Ev.bind ev ?_
          simp only [hv', decide_true]; exact iT
        · simp only [spec_IsValidTransaction.l0, l1In_eq, hb, hv, h1, h2, h3, e1, ck, cc, Int.natCast_nonneg, if_true, Option.bind_some, decide_false, Bool.not_false]; exact sT
    · have h3 : ¬ (i : Int) > 0 := by omega
      refine ⟨(rb && decide ((rs.length : Int) ≤ 60)), (rb && r), Ev.succ ?_, Ev.succ ?_, rb, rfl, rfl⟩
      · simp only [impl_areReads.l0, impl_isKey.f, in_eq, h1, h3, ck, cc, Int.natCast_nonneg, if_true, if_false, Option.bind_some]; exact iF
      · simp only [spec_IsValidTransaction.l0, l1In_eq, h1, h3, ck, cc, Int.natCast_nonneg, if_true, if_false, Option.bind_some]; exact sF
  · intro _ _ _
    refine ⟨decide ((rs.length : Int) ≤ 60), r, Ev.succ ?_, Ev.succ ?_, true, (Bool.true_and _).symm, (Bool.true_and _).symm⟩
    · simp only [impl_areReads.l0, Int.lt_irrefl, if_false]; exact Ev.now _
    · simp only [spec_IsValidTransaction.l0, Int.lt_irrefl, if_false]; exact hr
def tailOf (a0 a1 a2 a3 a4 a5 a6 : Int) (n : Int) : Bool :=
  ((decide (1 ≤ a0) && decide (a0 ≤ 9)) && ((decide (1 ≤ a1) && decide (a1 ≤ 4)) && (decide (0 ≤ a3) && decide (a3 ≤ 999)))) &&
  ((decide (1 ≤ a2) && decide (a2 ≤ 3)) && ((decide (0 ≤ a4) && decide (a4 ≤ 999)) && ((decide (1 ≤ a5) && decide (a5 ≤ 1000)) && (((a2 == 2) == decide (a6 > 0)) && ((decide (0 ≤ a6) && decide (a6 ≤ 999)) && decide (n ≤ 60))))))
theorem both_writes (a0 a1 a2 a3 a4 a5 a6 : Int) (rs : List S32) (ws : List S132) (hl : ws.length ≤ 1048576) :
    ∃ x y, Ev (fun k => impl_areWrites.f k ws) x ∧ Ev (fun k => spec_IsValidTransaction.l1 k ((0 : Nat) : Int) a0 a1 a2 a3 a4 a5 a6 rs ws) y ∧ y = (x && tailOf a0 a1 a2 a3 a4 a5 a6 (rs.length : Int)) := by
  refine ev_two (σ := Unit) (τ := Unit) (fun _ i k => impl_areWrites.l0 k ws ws (ws.length : Int) (i : Int)) (fun _ i k => spec_IsValidTransaction.l1 k (i : Int) a0 a1 a2 a3 a4 a5 a6 rs ws) ws.length (fun _ _ _ => True) (fun x y => y = (x && tailOf a0 a1 a2 a3 a4 a5 a6 (rs.length : Int))) ?_ ?_ () () 0 (Nat.zero_le _) trivial
  · intro _ _ i hi _ ih
    have h1 : (i : Int) < (ws.length : Int) := by omega
    have e0 := wrap_up hi (by omega)
    obtain ⟨x, y, hx, hy, rfl⟩ := ih () () trivial
    have iT : Ev (fun k => impl_areWrites.j1 k ws (i : Int) ws (ws.length : Int) true) false := Ev.succ (by simp only [impl_areWrites.j1, if_true]; exact Ev.now _)
    have sT : Ev (fun k => spec_IsValidTransaction.j3 k (i : Int) true a0 a1 a2 a3 a4 a5 a6 rs ws) false := Ev.succ (by simp only [spec_IsValidTransaction.j3, if_true]; exact Ev.now _)
    have iF : Ev (fun k => impl_areWrites.j1 k ws (i : Int) ws (ws.length : Int) false) x := Ev.succ (by simp only [impl_areWrites.j1, Bool.false_eq_true, if_false, e0]; exact hx)
    have sF : Ev (fun k => spec_IsValidTransaction.j3 k (i : Int) false a0 a1 a2 a3 a4 a5 a6 rs ws) (x && tailOf a0 a1 a2 a3 a4 a5 a6 (rs.length : Int)) := Ev.succ (by simp only [spec_IsValidTransaction.j3, Bool.false_eq_true, if_false, e0]; exact hy)
    by_cases ck : (decide (0 ≤ (rd_T132 ws (i : Int)).f0) && decide ((rd_T132 ws (i : Int)).f0 ≤ 5)) = true
    rotate_left 1
    · refine ⟨false, false, Ev.succ ?_, Ev.succ ?_, by simp⟩
      · simp only [impl_areWrites.l0, impl_isKey.f, in_eq, h1, ck, Int.natCast_nonneg, if_true, if_false, Option.bind_some]; exact iT
      · simp only [spec_IsValidTransaction.l1, l1In_eq, h1, ck, Int.natCast_nonneg, if_true, if_false, Option.bind_some]; exact sT
    by_cases cc : (decide (-1 ≤ (rd_T132 ws (i : Int)).f1) && decide ((rd_T132 ws (i : Int)).f1 ≤ 99)) = true
    rotate_left 1
    · refine ⟨false, false, Ev.succ ?_, Ev.succ ?_, by simp⟩
      · simp only [impl_areWrites.l0, impl_isKey.f, impl_isValue.f, in_eq, h1, ck, cc, Int.natCast_nonneg, if_true, if_false, Option.bind_some]; exact iT
      · simp only [spec_IsValidTransaction.l1, l1In_eq, h1, ck, cc, Int.natCast_nonneg, if_true, if_false, Option.bind_some]; exact sT
    by_cases h0 : 0 < i
    · have e1 : wrap64 ((i : Int) - 1) = ((i - 1 : Nat) : Int) := wrap_down h0 (by omega)
      have h2 : ((i - 1 : Nat) : Int) < (ws.length : Int) := by omega
      have h3 : (i : Int) > 0 := by omega
      by_cases hv : (rd_T132 ws ((i - 1 : Nat) : Int)).f0 ≥ (rd_T132 ws (i : Int)).f0
      · refine ⟨false, false, Ev.succ ?_, Ev.succ ?_, by simp⟩
        · simp only [impl_areWrites.l0, impl_isKey.f, impl_isValue.f, in_eq, h1, h2, h3, e1, hv, ck, cc, Int.natCast_nonneg, if_true, Option.bind_some, decide_true]; exact iT
        · simp only [spec_IsValidTransaction.l1, l1In_eq, h1, h2, h3, e1, hv, ck, cc, Int.natCast_nonneg, if_true, Option.bind_some, decide_true]; exact sT
      · refine ⟨x, (x && tailOf a0 a1 a2 a3 a4 a5 a6 (rs.length : Int)), Ev.succ ?_, Ev.succ ?_, rfl⟩
        · simp only [impl_areWrites.l0, impl_isKey.f, impl_isValue.f, in_eq, h1, h2, h3, e1, hv, ck, cc, Int.natCast_nonneg, if_true, Option.bind_some, decide_false]; exact iF
        · simp only [spec_IsValidTransaction.l1, l1In_eq, h1, h2, h3, e1, hv, ck, cc, Int.natCast_nonneg, if_true, Option.bind_some, decide_false]; exact sF
    · have h3 : ¬ (i : Int) > 0 := by omega
      refine ⟨x, (x && tailOf a0 a1 a2 a3 a4 a5 a6 (rs.length : Int)), Ev.succ ?_, Ev.succ ?_, rfl⟩
      · simp only [impl_areWrites.l0, impl_isKey.f, impl_isValue.f, in_eq, h1, h3, ck, cc, Int.natCast_nonneg, if_true, if_false, Option.bind_some]; exact iF
      · simp only [spec_IsValidTransaction.l1, l1In_eq, h1, h3, ck, cc, Int.natCast_nonneg, if_true, if_false, Option.bind_some]; exact sF
  · intro _ _ _
    refine ⟨true, tailOf a0 a1 a2 a3 a4 a5 a6 (rs.length : Int), Ev.succ ?_, Ev.succ ?_, (Bool.true_and _).symm⟩
    · simp only [impl_areWrites.l0, Int.lt_irrefl, if_false]; exact Ev.now _
    · have jT : Ev (fun k => spec_IsValidTransaction.j4 k true a0 a1 a2 a3 a4 a5 a6 rs ws) false := Ev.succ (by simp only [spec_IsValidTransaction.j4, if_true]; exact Ev.now _)
      have jF : Ev (fun k => spec_IsValidTransaction.j4 k false a0 a1 a2 a3 a4 a5 a6 rs ws) ((decide (1 ≤ a2) && decide (a2 ≤ 3)) && ((decide (0 ≤ a4) && decide (a4 ≤ 999)) && ((decide (1 ≤ a5) && decide (a5 ≤ 1000)) && (((a2 == 2) == decide (a6 > 0)) && ((decide (0 ≤ a6) && decide (a6 ≤ 999)) && decide ((rs.length : Int) ≤ 60)))))) := by
        apply Ev.succ
        simp only [spec_IsValidTransaction.j4, Bool.false_eq_true, if_false, l1In_eq, Option.bind_some]
        generalize (decide (1 ≤ a2) && decide (a2 ≤ 3)) = b2
        generalize (decide (0 ≤ a4) && decide (a4 ≤ 999)) = b4
        generalize (decide (1 ≤ a5) && decide (a5 ≤ 1000)) = b5
        generalize ((a2 == 2) == decide (a6 > 0)) = b6
        generalize (decide (0 ≤ a6) && decide (a6 ≤ 999)) = b7
        cases b2 <;> cases b4 <;> cases b5 <;> cases b6 <;> cases b7 <;> simp only [Bool.false_eq_true, if_false, if_true, Bool.false_and, Bool.true_and] <;> exact Ev.now _
      simp only [spec_IsValidTransaction.l1, Int.lt_irrefl, if_false, l1In_eq, Option.bind_some]
      unfold tailOf
      revert jF
      generalize ((decide (1 ≤ a2) && decide (a2 ≤ 3)) && ((decide (0 ≤ a4) && decide (a4 ≤ 999)) && ((decide (1 ≤ a5) && decide (a5 ≤ 1000)) && (((a2 == 2) == decide (a6 > 0)) && ((decide (0 ≤ a6) && decide (a6 ≤ 999)) && decide ((rs.length : Int) ≤ 60)))))) = bt
      intro jF
      generalize (decide (1 ≤ a0) && decide (a0 ≤ 9)) = b0
      generalize (decide (1 ≤ a1) && decide (a1 ≤ 4)) = b1
      generalize (decide (0 ≤ a3) && decide (a3 ≤ 999)) = b3
      cases b0 <;> cases b1 <;> cases b3 <;> simp only [Bool.false_eq_true, if_false, if_true, Bool.false_and, Bool.true_and, Bool.not_true, Bool.not_false, Bool.and_false, Bool.and_true] <;> first | exact jT | exact jF
theorem both_IsValidTransaction (a0 a1 a2 a3 a4 a5 a6 : Int) (rs : List S32) (ws : List S132) (hl : rs.length ≤ 1048576) (hw : ws.length ≤ 1048576) :
    ∃ b : Bool, Ev (fun k => spec_IsValidTransaction.f k a0 a1 a2 a3 a4 a5 a6 rs ws) b ∧ Ev (fun k => impl_IsValidTransaction.f k a0 a1 a2 a3 a4 a5 a6 rs ws) b ∧ (b = true → (a2 = 2 ∨ a6 = 0)) := by
  obtain ⟨wb, y1, hwi, hws, rfl⟩ := both_writes a0 a1 a2 a3 a4 a5 a6 rs ws hw
  obtain ⟨x, y, hri, hrs, rb, rfl, rfl⟩ := both_reads a0 a1 a2 a3 a4 a5 a6 rs ws hl _ hws
  have hc : (((a2 == 2) == decide (a6 > 0)) && (decide (0 ≤ a6) && decide (a6 ≤ 999))) = (if a2 = 2 then (decide (1 ≤ a6) && decide (a6 ≤ 999)) else (a6 == 0)) := by
    by_cases c2 : a2 = 2
    · by_cases d1 : 1 ≤ a6
      · have d0 : a6 > 0 := by omega
        have d3 : 0 ≤ a6 := by omega
        simp [c2, d1, d0, d3]
      · have d0 : ¬ a6 > 0 := by omega
        simp [c2, d1, d0]
    · by_cases d1 : a6 = 0
      · simp [c2, d1]
      · by_cases d0 : a6 > 0
        · have e2 : (a2 == 2) = false := by simpa using c2
          have e6 : (a6 == 0) = false := by simpa using d1
          simp [c2, e2, e6, d0]
        · have d3 : ¬ 0 ≤ a6 := by omega
          simp [c2, d1, d0, d3]
  have jT : Ev (fun k => impl_IsValidTransaction.j0 k true a0 a1 a2 a3 a4 a5 a6 rs ws) false := Ev.succ (by simp only [impl_IsValidTransaction.j0, if_true]; exact Ev.now _)
  have kT : Ev (fun k => impl_IsValidTransaction.j1 k true a0 a1 a2 a3 a4 a5 a6 rs ws) false := Ev.succ (by simp only [impl_IsValidTransaction.j1, if_true]; exact Ev.now _)
  have kF : Ev (fun k => impl_IsValidTransaction.j1 k false a0 a1 a2 a3 a4 a5 a6 rs ws) ((rb && decide ((rs.length : Int) ≤ 60)) && wb) := by
    apply Ev.succ
    simp only [impl_IsValidTransaction.j1, Bool.false_eq_true, if_false]
    refine Ev.bind hri ?_
    cases (rb && decide ((rs.length : Int) ≤ 60))
    · simp only [Bool.false_eq_true, if_false, Bool.false_and]; exact Ev.now _
    · simp only [if_true, Bool.true_and]; exact Ev.bind hwi (Ev.now _)
  have jF : Ev (fun k => impl_IsValidTransaction.j0 k false a0 a1 a2 a3 a4 a5 a6 rs ws) ((if a2 = 2 then (decide (1 ≤ a6) && decide (a6 ≤ 999)) else (a6 == 0)) && ((rb && decide ((rs.length : Int) ≤ 60)) && wb)) := by
    apply Ev.succ
    simp only [impl_IsValidTransaction.j0, impl_IsStamp.f, in_eq, Bool.false_eq_true, if_false, Option.bind_some]
    by_cases c2 : a2 = 2
    · simp only [c2, if_true]
      rw [c2] at kT kF
      cases (decide (1 ≤ a6) && decide (a6 ≤ 999))
      · simp only [Bool.false_eq_true, if_false, Bool.false_and]; exact kT
      · simp only [if_true, Bool.true_and]; exact kF
    · simp only [c2, if_false]
      by_cases c6 : a6 = 0
      · have : (a6 != 0) = false := by simp [c6]
        have h6 : (a6 == 0) = true := by simp [c6]
        simp only [this, h6, Bool.true_and]; exact kF
      · have : (a6 != 0) = true := by simp [c6]
        have h6 : (a6 == 0) = false := by simp [c6]
        simp only [this, h6, Bool.false_and]; exact kT
  have hi : Ev (fun k => impl_IsValidTransaction.f k a0 a1 a2 a3 a4 a5 a6 rs ws) ((decide (1 ≤ a0) && decide (a0 ≤ 9)) && ((decide (1 ≤ a1) && decide (a1 ≤ 4)) && ((decide (1 ≤ a2) && decide (a2 ≤ 3)) && ((decide (0 ≤ a3) && decide (a3 ≤ 999)) && ((decide (0 ≤ a4) && decide (a4 ≤ 999)) && ((decide (1 ≤ a5) && decide (a5 ≤ 1000)) && ((if a2 = 2 then (decide (1 ≤ a6) && decide (a6 ≤ 999)) else (a6 == 0)) && ((rb && decide ((rs.length : Int) ≤ 60)) && wb)))))))) := by
    revert jF
    generalize ((if a2 = 2 then (decide (1 ≤ a6) && decide (a6 ≤ 999)) else (a6 == 0)) && ((rb && decide ((rs.length : Int) ≤ 60)) && wb)) = bt
    intro jF
    unfold impl_IsValidTransaction.f
    simp only [impl_isID.f, impl_isScheme.f, in_eq, Option.bind_some]
    generalize (decide (1 ≤ a0) && decide (a0 ≤ 9)) = b0
    generalize (decide (1 ≤ a1) && decide (a1 ≤ 4)) = b1
    generalize (decide (1 ≤ a2) && decide (a2 ≤ 3)) = b2
    generalize (decide (0 ≤ a3) && decide (a3 ≤ 999)) = b3
    generalize (decide (0 ≤ a4) && decide (a4 ≤ 999)) = b4
    generalize (decide (1 ≤ a5) && decide (a5 ≤ 1000)) = b5
    cases b0 <;> cases b1 <;> cases b2 <;> cases b3 <;> cases b4 <;> cases b5 <;> simp only [Bool.false_eq_true, if_false, if_true, Bool.false_and, Bool.true_and, Bool.not_true, Bool.not_false, Bool.and_false, Bool.and_true] <;> first | exact jT | exact jF
  refine ⟨_, hrs, ?_, ?_⟩
  · have he : (rb && (wb && tailOf a0 a1 a2 a3 a4 a5 a6 (rs.length : Int))) = _ := rfl
    have heq : (rb && (wb && tailOf a0 a1 a2 a3 a4 a5 a6 (rs.length : Int))) = ((decide (1 ≤ a0) && decide (a0 ≤ 9)) && ((decide (1 ≤ a1) && decide (a1 ≤ 4)) && ((decide (1 ≤ a2) && decide (a2 ≤ 3)) && ((decide (0 ≤ a3) && decide (a3 ≤ 999)) && ((decide (0 ≤ a4) && decide (a4 ≤ 999)) && ((decide (1 ≤ a5) && decide (a5 ≤ 1000)) && ((if a2 = 2 then (decide (1 ≤ a6) && decide (a6 ≤ 999)) else (a6 == 0)) && ((rb && decide ((rs.length : Int) ≤ 60)) && wb)))))))) := by
      rw [← hc]
      unfold tailOf
      generalize (decide (1 ≤ a0) && decide (a0 ≤ 9)) = b0
      generalize (decide (1 ≤ a1) && decide (a1 ≤ 4)) = b1
      generalize (decide (1 ≤ a2) && decide (a2 ≤ 3)) = b2
      generalize (decide (0 ≤ a3) && decide (a3 ≤ 999)) = b3
      generalize (decide (0 ≤ a4) && decide (a4 ≤ 999)) = b4
      generalize (decide (1 ≤ a5) && decide (a5 ≤ 1000)) = b5
      generalize ((a2 == 2) == decide (a6 > 0)) = b6
      generalize (decide (0 ≤ a6) && decide (a6 ≤ 999)) = b7
      generalize decide ((rs.length : Int) ≤ 60) = b8
      cases b0 <;> cases b1 <;> cases b2 <;> cases b3 <;> cases b4 <;> cases b5 <;> cases b6 <;> cases b7 <;> cases b8 <;> cases rb <;> cases wb <;> rfl
    rw [heq]; exact hi
  · intro hb
    simp only [tailOf, Bool.and_eq_true] at hb
    obtain ⟨_, _, _, _, _, _, h6, h7, _⟩ := hb
    by_cases c2 : a2 = 2
    · exact .inl c2
    · have hcc := hc
      rw [h6, Bool.true_and, if_neg c2] at hcc
      have : (decide (0 ≤ a6) && decide (a6 ≤ 999)) = true := by simp only [Bool.and_eq_true]; exact h7
      rw [this] at hcc
      exact .inr (by simpa using hcc.symm)
theorem FnExactCommittedStamp : ∀ (x0_0 : Int) (x0_1 : Int) (x0_2 : Int) (x0_3 : Int) (x0_4 : Int) (x0_5 : Int) (x0_6 : Int) (x0_7 : List (S30)) (x0_8 : List (S208)), (okInt .i64) x0_0 → (okInt .i64) x0_1 → (okInt .i64) x0_2 → (okInt .i64) x0_3 → (okInt .i64) x0_4 → (okInt .i64) x0_5 → (okInt .i64) x0_6 → (okRow PFnExactCommittedStamp.g30) x0_7 → (okRow PFnExactCommittedStamp.g208) x0_8 → ∃ k, laws_FnExactCommittedStamp.f k x0_0 x0_1 x0_2 x0_3 x0_4 x0_5 x0_6 x0_7 x0_8 = some true := by
  intro a0 a1 a2 a3 a4 a5 a6 rs ws _ _ _ _ _ _ _ hr hw
  have hrm : rs.length ≤ 9223372036854775807 := by have := hr.1; simp only [maxLen] at this; omega
  have hwm : ws.length ≤ 9223372036854775807 := by have := hw.1; simp only [maxLen] at this; omega
  apply Ev.rounds
  unfold laws_FnExactCommittedStamp.f
  have hsz : ∃ r, Ev (fun _ => laws_szTransaction.f a0 a1 a2 a3 a4 a5 a6 rs ws 1048576) r ∧ (0 ≤ r → rs.length ≤ 1048576 ∧ ws.length ≤ 1048576) := by
    unfold laws_szTransaction.f
    obtain ⟨r0, e0, u0, f0⟩ := szx_ReadMark rs 1048576 (by omega) (by omega) hrm
    by_cases c0 : r0 < 0
    · exact ⟨-1, Ev.bind e0 (by simp only [c0, if_true]; exact Ev.now _), fun h => absurd h (by omega)⟩
    obtain ⟨r1, e1, u1, f1⟩ := szx_Write ws r0 (by omega) (by omega) hwm
    by_cases c1 : r1 < 0
    · exact ⟨-1, Ev.bind e0 (by simp only [c0, if_false]; exact Ev.bind e1 (by simp only [c1, if_true]; exact Ev.now _)), fun h => absurd h (by omega)⟩
    exact ⟨r1, Ev.bind e0 (by simp only [c0, if_false]; exact Ev.bind e1 (by simp only [c1, if_false]; exact Ev.now _)), fun _ => ⟨f0 (by omega), f1 (by omega)⟩⟩
  obtain ⟨r, e, hf⟩ := hsz
  refine Ev.bind e ?_
  by_cases h : r < 0
  · simp only [h, if_true]; exact Ev.now _
  obtain ⟨hrl, hwl⟩ := hf (by omega)
  simp only [h, if_false]
  have hto : Ev (fun k => laws_toTransaction.f k a0 a1 a2 a3 a4 a5 a6 rs ws) (a0, a1, a2, a3, a4, a5, a6, rs.map cvReadMark, ws.map cvWrite) := by
    unfold laws_toTransaction.f
    exact Ev.bind (ev_toReadMarkS rs hrl) (Ev.bind (ev_toWriteS ws hwl) (Ev.now _))
  obtain ⟨b, s1, i1, hb⟩ := both_IsValidTransaction a0 a1 a2 a3 a4 a5 a6 (rs.map cvReadMark) (ws.map cvWrite) (by simpa using hrl) (by simpa using hwl)
  refine Ev.bind hto ?_
  refine Ev.bind (a := if b = true then a6 else 0) ?_ (Ev.bind hto (Ev.bind (a := if b = true then a6 else 0) ?_ ?_))
  · unfold spec_CommittedStamp.f
    refine Ev.bind s1 ?_
    cases b
    · simp only [Bool.false_eq_true, if_false]; exact Ev.now _
    · by_cases c2 : a2 = 2
      · simp only [c2, if_true]; exact Ev.now _
      · have h6 : a6 = 0 := (hb rfl).resolve_left c2
        simp only [c2, h6, if_true, if_false]; exact Ev.now _
  · unfold impl_CommittedStamp.f
    refine Ev.bind i1 ?_
    cases b
    · simp only [Bool.false_eq_true, if_false]; exact Ev.now _
    · simp only [if_true]; exact Ev.now _
  simp only [if_true]
  refine Ev.bind hto (Ev.bind (a := true) ?_ (by simp only [if_true]; exact Ev.now _))
  unfold laws_eqTransaction.f
  simp only [if_true]
  exact Ev.bind (ev_eqReadMarkS _ (by simp; omega)) (by simp only [if_true]; exact Ev.bind (ev_eqWriteS _ (by simp; omega)) (by simp only [if_true]; exact Ev.now _))

end Go.Proofs.Ytpiaeinfneoioaa.Pure
