/- The plain statement of FnExactOpsOf: both functions keep the same elements of the list, and marks in the result are held. Condition: the list's length is at most maxLen. -/
import Derived.Test.YtaopeedfmhmfgaaGoodFnExactOpsOf
import Derived.Test.YtaopeedfmhmfgaaPlain
namespace Go.Proofs.Ytaopeedfmhmfgaa.Pure
open Go.RowKit Go.Proofs.Ytaopeedfmhmfgaa.PFnExactOpsOf Go.Proofs.YtaopeedfmhmfgaaW.PrintWords Go.Proofs.YtaopeedfmhmfgaaW.PrintLast Go.Proofs.Ytaopeedfmhmfgaa.OpenK Go.Proofs.Ytaopeedfmhmfgaa.Plain
set_option linter.unusedVariables false
set_option linter.unusedSimpArgs false

theorem sz_OpS (l : List S105) (a : Int) (h0 : 0 ≤ a) (h1 : a ≤ 1048576) (hl : l.length ≤ 9223372036854775807) : laws_szOpS.f l a = some (if a < l.length then -1 else a - l.length) := by
  unfold laws_szOpS.f
  rw [wrap_in (by omega) (by omega)]
  by_cases h : a < l.length
  · rw [if_pos (by omega), if_pos h]
  · rw [if_neg (by omega), if_neg h]

theorem szx_Op (l : List S105) (a : Int) (h0 : 0 ≤ a) (h1 : a ≤ 1048576) (hl : l.length ≤ 9223372036854775807) : ∃ r, Ev (fun _ => laws_szOpS.f l a) r ∧ r ≤ a ∧ (0 ≤ r → l.length ≤ 1048576) := by
  rw [sz_OpS l a h0 h1 hl]
  refine ⟨_, Ev.now _, ?_, ?_⟩ <;> split <;> omega

def cvOp (x : S105) : S101 := ⟨x.f0, x.f1, x.f2, x.f3, x.f4, x.f5⟩
theorem ev_toOpS (l : List S105) (hl : l.length ≤ 1048576) : Ev (fun k => laws_toOpS.f k l) (l.map cvOp) := by
  have h : Ev (fun k => laws_toOpS.l0 k l (List.replicate l.length z101) ((0 : Nat) : Int)) (l.map cvOp) := by
    refine ev_up (σ := List S101) (fun ys i k => laws_toOpS.l0 k l ys (i : Int)) l.length (fun ys i => Filled (l.map cvOp) ys i) (fun _ _ => l.map cvOp) ?_ ?_ (List.replicate l.length z101) 0 (Nat.zero_le _) (Filled.start _ _ (by simp))
    · intro ys i hi hI ih
      apply Ev.succ
      have h1 : (i : Int) < (l.length : Int) := by omega
      have h2 : (i : Int) < (ys.length : Int) := by have := hI.1; simp at this; omega
      simp only [laws_toOpS.l0, laws_toOp.f, Option.bind_some, h1, h2, Int.natCast_nonneg, if_true, Int.toNat_natCast, wrap_up hi (by omega)]
      exact ih _ (hI.step (by simpa using hi) (by simp [cvOp, rd_T105, hi]))
    · intro ys hI
      apply Ev.succ
      simp only [laws_toOpS.l0, Int.lt_irrefl, if_false]
      exact Ev.some (Filled.done (by simpa using hI))
  unfold laws_toOpS.f
  have h3 : ((l.length : Int) : Int).toNat ≤ 5864062014805 := by omega
  simp only [Int.natCast_nonneg, if_true, h3]
  simpa using h

theorem ev_eqOpS (l : List S101) (hl : l.length ≤ 9223372036854775807) : Ev (fun k => laws_eqOpS.f k l l) true := by
  have h : Ev (fun k => laws_eqOpS.l0 k l l ((0 : Nat) : Int)) true := by
    refine ev_up (σ := Unit) (fun _ i k => laws_eqOpS.l0 k l l (i : Int)) l.length (fun _ _ => True) (fun _ _ => true) ?_ ?_ () 0 (Nat.zero_le _) trivial
    · intro ys i hi hI ih
      apply Ev.succ
      have h1 : (i : Int) < (l.length : Int) := by omega
      simp only [laws_eqOpS.l0, laws_eqOp.f, Option.bind_some, h1, Int.natCast_nonneg, if_true, wrap_up hi hl]
      exact ih () trivial
    · intro ys hI
      apply Ev.succ
      simp only [laws_eqOpS.l0, Int.lt_irrefl, if_false]
      exact Ev.now _
  unfold laws_eqOpS.f
  simp only [if_true]
  exact h

def mkOp : Int → S101 := (fun a : Int => (⟨a, a + 1, a + 2, a + 3, a + 4, a + 5⟩ : S101))
theorem ev_markOpS (l : List S101) (hl : l.length ≤ 4194304) : Ev (fun k => laws_markOpS.f k l 1) (1 + 6 * (l.length : Int), markL mkOp 6 l.length 1) := by
  have h : Ev (fun k => laws_markOpS.l0 k l 1 ((0 : Nat) : Int)) (1 + 6 * (l.length : Int), markL mkOp 6 l.length 1) := by
    refine ev_up (σ := List S101 × Int) (fun s i k => laws_markOpS.l0 k s.1 s.2 (i : Int)) l.length (fun s i => Filled (markL mkOp 6 l.length 1) s.1 i ∧ s.2 = 1 + 6 * (i : Int)) (fun _ _ => (1 + 6 * (l.length : Int), markL mkOp 6 l.length 1)) ?_ ?_ (l, 1) 0 (Nat.zero_le _) ⟨Filled.start _ _ (by simp [markL_length]), by simp⟩
    · rintro ⟨ys, a⟩ i hi ⟨hI, ha⟩ ih
      apply Ev.succ
      dsimp only at ha hI ⊢
      have hly : ys.length = l.length := by have := hI.1; simpa [markL_length] using this
      have h1 : (i : Int) < (ys.length : Int) := by omega
      have hiy : i < ys.length := by omega
      have w0 : wrap64 (a + 1) = a + 1 := wrap_in (by omega) (by omega)
      have w1 : wrap64 (a + 2) = a + 2 := wrap_in (by omega) (by omega)
      have w2 : wrap64 (a + 3) = a + 3 := wrap_in (by omega) (by omega)
      have w3 : wrap64 (a + 4) = a + 4 := wrap_in (by omega) (by omega)
      have w4 : wrap64 (a + 5) = a + 5 := wrap_in (by omega) (by omega)
      have w5 : wrap64 (a + 6) = a + 6 := wrap_in (by omega) (by omega)
      have hr := ih (ys.set i (mkOp a), a + 6) ⟨hI.step (by simpa [markL_length] using hi) (by rw [markL_get, ha]; rfl), by dsimp only; omega⟩
      dsimp only at hr
      simp only [laws_markOpS.l0, Option.bind_some, h1, Int.natCast_nonneg, if_true, Int.toNat_natCast, wrap_up hi (by omega), w0, w1, w2, w3, w4, w5, show a + 1 + 1 = a + 2 from by omega, show a + 2 + 1 = a + 3 from by omega, show a + 3 + 1 = a + 4 from by omega, show a + 4 + 1 = a + 5 from by omega, show a + 5 + 1 = a + 6 from by omega]
      simpa [mkOp, rd_T101, hiy] using hr
    · rintro ⟨ys, a⟩ ⟨hI, ha⟩
      apply Ev.succ
      dsimp only at ha hI ⊢
      have hly : ys.length = l.length := by have := hI.1; simpa [markL_length] using this
      have h1 : ¬ ((l.length : Int) < (ys.length : Int)) := by omega
      simp only [laws_markOpS.l0, h1, if_false]
      have hd : ys = markL mkOp 6 l.length 1 := Filled.done (by rw [markL_length]; exact hI)
      exact Ev.some (by rw [ha, hd])
  exact h
theorem ev_heldOpS (n : Nat) (hn : n ≤ 4194304) : Ev (fun k => laws_heldOpS.f k (markL mkOp 6 n 1) 1) (1 + 6 * (n : Int)) := by
  have h : Ev (fun k => laws_heldOpS.l0 k (markL mkOp 6 n 1) 1 ((0 : Nat) : Int)) (1 + 6 * (n : Int)) := by
    refine ev_up (σ := Int) (fun a i k => laws_heldOpS.l0 k (markL mkOp 6 n 1) a (i : Int)) n (fun a i => a = 1 + 6 * (i : Int)) (fun _ _ => 1 + 6 * (n : Int)) ?_ ?_ 1 0 (Nat.zero_le _) (by simp)
    · intro a i hi ha ih
      apply Ev.succ
      have h1 : (i : Int) < ((markL mkOp 6 n 1).length : Int) := by rw [markL_length]; omega
      have hiy : i < (markL mkOp 6 n 1).length := by rw [markL_length]; omega
      have hg : (markL mkOp 6 n 1)[i] = mkOp a := by rw [markL_get, ha]; rfl
      have w0 : wrap64 (a + 1) = a + 1 := wrap_in (by omega) (by omega)
      have w1 : wrap64 (a + 2) = a + 2 := wrap_in (by omega) (by omega)
      have w2 : wrap64 (a + 3) = a + 3 := wrap_in (by omega) (by omega)
      have w3 : wrap64 (a + 4) = a + 4 := wrap_in (by omega) (by omega)
      have w4 : wrap64 (a + 5) = a + 5 := wrap_in (by omega) (by omega)
      have w5 : wrap64 (a + 6) = a + 6 := wrap_in (by omega) (by omega)
      have hr := ih (a + 6) (by omega)
      have hrd : rd_T101 (markL mkOp 6 n 1) (i : Int) = mkOp a := by rw [← hg]; simp [rd_T101, hiy]
      simp only [laws_heldOpS.l0, h1, Int.natCast_nonneg, if_true, hrd, wrap_up hi (by omega), w0, w1, w2, w3, w4, w5, show a + 1 + 1 = a + 2 from by omega, show a + 2 + 1 = a + 3 from by omega, show a + 3 + 1 = a + 4 from by omega, show a + 4 + 1 = a + 5 from by omega, show a + 5 + 1 = a + 6 from by omega]
      simpa [mkOp] using hr
    · intro a ha
      apply Ev.succ
      have h1 : ¬ ((n : Int) < ((markL mkOp 6 n 1).length : Int)) := by rw [markL_length]; omega
      simp only [laws_heldOpS.l0, h1, if_false]
      exact Ev.some ha
  exact h


theorem ev_first (p : S101 → Bool) (a : Int) (hp : ∀ e : S101, impl_OpsOf_1.f e.f0 e.f1 e.f2 e.f3 e.f4 e.f5 a = some (p e)) (l : List S101) (hl : l.length ≤ 1048576) : ∃ q, Ev (fun k => impl_Op_125.f k l a) q ∧ ((q = -1 ∧ ∀ j (hj : j < l.length), p l[j] = false) ∨ (∃ t : Nat, ∃ ht : t < l.length, q = (t : Int) ∧ p l[t] = true ∧ ∀ j (hj : j < l.length), j < t → p l[j] = false)) := by
  show ∃ q, Ev (fun k => impl_Op_125.l0 k l (l.length : Int) ((0 : Nat) : Int) a) q ∧ _
  refine ev_to (σ := Unit) (fun _ i k => impl_Op_125.l0 k l (l.length : Int) (i : Int) a) l.length (fun _ i => ∀ j (hj : j < l.length), j < i → p l[j] = false) (fun q => (q = -1 ∧ ∀ j (hj : j < l.length), p l[j] = false) ∨ (∃ t : Nat, ∃ ht : t < l.length, q = (t : Int) ∧ p l[t] = true ∧ ∀ j (hj : j < l.length), j < t → p l[j] = false)) ?_ ?_ () 0 (Nat.zero_le _) (fun j hj h => absurd h (by omega))
  · intro _ i hi hI ih
    have h1 : (i : Int) < (l.length : Int) := by omega
    have e0 := wrap_up hi (by omega)
    have hrd : rd_T101 l (i : Int) = l[i] := by simp [rd_T101, hi]
    by_cases c : p (rd_T101 l (i : Int)) = true
    · refine ⟨(i : Int), Ev.succ ?_, .inr ⟨i, hi, rfl, by rw [← hrd]; exact c, hI⟩⟩
      simp only [impl_Op_125.l0, h1, hp, c, Int.natCast_nonneg, if_true, Option.bind_some]; exact Ev.now _
    · have cb : p (rd_T101 l (i : Int)) = false := by simpa using c
      obtain ⟨q, hs, hR⟩ := ih () (fun j hj hji => if hh : j < i then hI j hj hh else by obtain rfl : j = i := (by omega); rw [← hrd]; exact cb)
      refine ⟨q, Ev.succ ?_, hR⟩
      simp only [impl_Op_125.l0, h1, hp, cb, e0, Int.natCast_nonneg, if_true, if_false, Option.bind_some, Bool.false_eq_true]; exact hs
  · intro _ hI
    refine ⟨-1, Ev.succ ?_, .inl ⟨rfl, fun j hj => hI j hj hj⟩⟩
    simp only [impl_Op_125.l0, Int.lt_irrefl, if_false]; exact Ev.now _
theorem ev_delete (p : S101 → Bool) (a : Int) (hp : ∀ e : S101, impl_OpsOf_1.f e.f0 e.f1 e.f2 e.f3 e.f4 e.f5 a = some (p e)) (l : List S101) (hl : l.length ≤ 1048576) : Ev (fun k => impl_Op_96.f k l a) (l.filter (fun e => !p e)) := by
  obtain ⟨q, eq, hq⟩ := ev_first p a hp l hl
  unfold impl_Op_96.f
  refine Ev.bind eq ?_
  rcases hq with ⟨rfl, hn⟩ | ⟨t, ht, rfl, hpt, hn⟩
  · simp only [if_true, filter_none hn]; exact Ev.now _
  · have hne : ¬ ((t : Int) = -1) := by omega
    have e0 := wrap_up ht (by omega)
    simp only [hne, if_false, e0]
    refine ev_up (σ := List S101 × Nat) (fun s j k => impl_Op_96.l0 k s.1 (s.2 : Int) (j : Int) a) l.length (fun s j => Del p l s.1 s.2 j) (fun _ _ => l.filter (fun e => !p e)) ?_ ?_ (l, t) (t + 1) (by omega) (Del.start ht hpt hn)
    · rintro ⟨xs, i⟩ j hj hI ih
      have hlen := hI.1
      have hij := hI.2.1
      dsimp only at hlen hij hI ih ⊢
      have h1 : (j : Int) < (xs.length : Int) := by omega
      have hjx : j < xs.length := by omega
      have e1 := wrap_up hj (by omega)
      have hrd : rd_T101 xs (j : Int) = l[j] := by rw [← hI.get hjx hj]; simp [rd_T101, hjx]
      apply Ev.succ
      by_cases c : p (rd_T101 xs (j : Int)) = true
      · simp only [impl_Op_96.l0, h1, hp, c, e1, Int.natCast_nonneg, if_true, Option.bind_some]
        exact ih (xs, i) (hI.skip hj (by rw [← hrd]; exact c))
      · have cb : p (rd_T101 xs (j : Int)) = false := by simpa using c
        have h2 : (i : Int) < (xs.length : Int) := by omega
        have e2 := wrap_up (show i < l.length by omega) (by omega)
        simp only [impl_Op_96.l0, h1, h2, hp, cb, e1, e2, Int.natCast_nonneg, if_true, if_false, Option.bind_some, Bool.false_eq_true, Int.toNat_natCast]
        exact ih (xs.set i (rd_T101 xs (j : Int)), i + 1) (hI.keep hj (by rw [← hrd]; exact cb) hrd)
    · rintro ⟨xs, i⟩ hI
      have hlen := hI.1
      have hij := hI.2.1
      dsimp only at hlen hij hI ⊢
      have h1 : ¬ ((l.length : Int) < (xs.length : Int)) := by omega
      have h2 : (i : Int) ≤ (xs.length : Int) := by omega
      apply Ev.succ
      simp only [impl_Op_96.l0, h1, h2, Int.natCast_nonneg, if_true, if_false, Int.toNat_natCast]
      refine Ev.some ?_
      rw [← hI.done]
      unfold clr
      rw [List.take_append_of_le_length (by rw [List.length_take]; omega), List.take_take, Nat.min_self]
theorem ev_filter (p : S101 → Bool) (a : Int) (L : Nat → List S101 → Int → Option (List S101)) (l : List S101) (hl : l.length ≤ 1048576)
    (hstop : ∀ k ys, L (k + 1) ys (l.length : Int) = some ys)
    (hgo : ∀ k ys i (hi : i < l.length), ys.length ≤ 1048576 → L (k + 1) ys (i : Int) = if p l[i] = true then L k ys ((i + 1 : Nat) : Int) else L k (ys ++ [l[i]]) ((i + 1 : Nat) : Int)) : Ev (fun k => L k [] ((0 : Nat) : Int)) (l.filter (fun e => !p e)) := by
  refine ev_up (σ := List S101) (fun ys i k => L k ys (i : Int)) l.length (fun ys i => ys = (l.take i).filter (fun e => !p e)) (fun _ _ => l.filter (fun e => !p e)) ?_ ?_ [] 0 (Nat.zero_le _) (by simp)
  · rintro ys i hi rfl ih
    have hle : ((l.take i).filter (fun e => !p e)).length ≤ 1048576 := Nat.le_trans (List.length_filter_le ..) (by rw [List.length_take]; omega)
    apply Ev.succ
    simp only [hgo _ _ i hi hle]
    by_cases c : p l[i] = true
    · simp only [c, if_true]
      exact ih _ (by rw [take_succ_filter _ _ _ hi]; simp [c])
    · simp only [c, Bool.false_eq_true, if_false]
      exact ih _ (by rw [take_succ_filter _ _ _ hi]; simp [c])
  · rintro ys rfl
    apply Ev.succ
    simp only [hstop]
    exact Ev.some (by rw [List.take_length])
theorem both_OpsOf (l : List S101) (a : Int) (hl : l.length ≤ 1048576) : ∃ r, Ev (fun k => spec_OpsOf.f k l a) r ∧ Ev (fun k => impl_OpsOf.f k l a) r ∧ r = l.filter (fun e => !(e.f1 != a)) := by
  refine ⟨l.filter (fun e => !(e.f1 != a)), ?_, ?_, rfl⟩
  · refine ev_filter (fun e => (e.f1 != a)) a (fun k ys i => spec_OpsOf.l0 k l a ys i) l hl ?_ ?_
    · intro k ys
      simp only [spec_OpsOf.l0, Int.lt_irrefl, if_false]
    · intro k ys i hi hys
      have h1 : (i : Int) < (l.length : Int) := by omega
      have h2 : ys.length < 2932031007402 := by omega
      have h3 : ys.length < 8796093022208 := by omega
      have hrd : rd_T101 l (i : Int) = l[i] := by simp [rd_T101, hi]
      simp only [spec_OpsOf.l0, h1, h2, h3, hrd, Int.natCast_nonneg, if_true, wrap_up hi (by omega)]
      by_cases c : l[i].f1 = a
      · rw [if_pos c, if_neg (by simp [c])]
      · rw [if_neg c, if_pos (by simp [c])]
  · unfold impl_OpsOf.f impl_Op_97.f
    have h2 : ([] : List S101).length + l.length < 2932031007402 := by simp; omega
    have h3 : ([] : List S101).length + l.length < 8796093022208 := by simp; omega
    simp only [Option.bind_some, h2, h3, if_true, List.nil_append]
    exact Ev.bind (ev_delete (fun e => (e.f1 != a)) a (by intro e; rfl) l hl) (Ev.now _)
theorem FnExactOpsOf : ∀ (x0 : List (S105)) (x1 : Int), (okRow PFnExactOpsOf.g105) x0 → (okInt .i64) x1 → ∃ k, laws_FnExactOpsOf.f k x0 x1 = some true := by
  intro l a hl _
  have hm : l.length ≤ 9223372036854775807 := by have := hl.1; simp only [maxLen] at this; omega
  apply Ev.rounds
  unfold laws_FnExactOpsOf.f
  simp only [sz_OpS l 1048576 (by omega) (by omega) hm, Option.bind_some]
  by_cases h : (1048576 : Int) < l.length
  · simp only [h, if_true]
    exact Ev.some rfl
  · have hs : l.length ≤ 1048576 := by omega
    have h0 : ¬ ((1048576 : Int) - l.length < 0) := by omega
    simp only [h, h0, if_false]
    obtain ⟨r, e1, e2, hr⟩ := both_OpsOf (l.map cvOp) a (by simpa using hs)
    have hr' : r.length ≤ 1048576 := by rw [hr]; exact Nat.le_trans (List.length_filter_le ..) (by simpa using hs)
    clear hr
    refine Ev.bind (ev_toOpS l hs) (Ev.bind e1 (Ev.bind (ev_toOpS l hs) (Ev.bind e2 (Ev.bind (ev_eqOpS r (by omega)) ?_))))
    simp only [if_true]
    refine Ev.bind (ev_toOpS l hs) (Ev.bind (ev_eqOpS _ (by simpa using hm)) ?_)
    simp only [if_true]
    refine Ev.bind (ev_markOpS _ (by simp; omega)) ?_
    have hx : ¬ ((1 : Int) + 6 * ((l.map cvOp).length : Int) < 0) := by omega
    simp only [hx, if_false]
    refine Ev.bind (ev_eqOpS r (by omega)) ?_
    simp only [Bool.not_true]
    apply Ev.succ
    simp only [laws_FnExactOpsOf.j0, Bool.false_eq_true, if_false]
    refine Ev.bind (ev_markOpS r (by omega)) (Ev.bind (ev_heldOpS _ (by omega)) ?_)
    have hy : ¬ ((1 : Int) + 6 * (r.length : Int) < 0) := by omega
    simp only [hy, if_false, if_true]
    refine Ev.bind (ev_toOpS l hs) (Ev.bind e2 (Ev.bind (ev_eqOpS r (by omega)) ?_))
    simp only [if_true]
    refine Ev.bind (ev_heldOpS _ (by omega)) ?_
    simp only [hy, if_false, if_true]
    exact Ev.some rfl

end Go.Proofs.Ytaopeedfmhmfgaa.Pure
