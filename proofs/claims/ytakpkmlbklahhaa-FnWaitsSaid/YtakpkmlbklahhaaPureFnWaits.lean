/- The plain statement of FnWaits: what is drawn ends; both functions set the same wait; a wait that closes the chain is a deadlock, and a transaction that ends is waited for by no one. Condition: the code's length is at most maxLen. -/
import Derived.Test.YtakpkmlbklahhaaPFnWaitsx10
import Derived.Test.YtakpkmlbklahhaaPlainT
namespace Go.Proofs.Ytakpkmlbklahhaa.Pure
open Go.RowKit Go.Proofs.Ytakpkmlbklahhaa.PFnWaits Go.Proofs.YtakpkmlbklahhaaW.PrintWords Go.Proofs.YtakpkmlbklahhaaW.PrintLast Go.Proofs.Ytakpkmlbklahhaa.Plain
set_option linter.unusedVariables false
set_option linter.unusedSimpArgs false


theorem ex_succ {α : Type} {g : Nat → Option α} {P : α → Prop} (h : ∃ r, Ev (fun k => g (k + 1)) r ∧ P r) : ∃ r, Ev g r ∧ P r := by
  obtain ⟨r, a, b⟩ := h
  exact ⟨r, Ev.succ a, b⟩
theorem ex_ite {α : Type} {c : Prop} [Decidable c] {f g : Nat → Option α} {P : α → Prop} (h1 : c → ∃ r, Ev f r ∧ P r) (h2 : ¬ c → ∃ r, Ev g r ∧ P r) : ∃ r, Ev (fun k => if c then f k else g k) r ∧ P r := by
  by_cases h : c
  · simpa only [if_pos h] using h1 h
  · simpa only [if_neg h] using h2 h
theorem ex_now {α : Type} {x : α} {P : α → Prop} (h : P x) : ∃ r, Ev (fun _ => some x) r ∧ P r := ⟨x, Ev.now _, h⟩
theorem ex_bind {α β : Type} {x : Option α} {a : α} (e : x = some a) {g : Nat → α → Option β} {P : β → Prop} (h : ∃ r, Ev (fun k => g k a) r ∧ P r) : ∃ r, Ev (fun k => x.bind (g k)) r ∧ P r := by
  subst e; exact h
theorem ex_bindE {α β : Type} {f : Nat → Option α} {a : α} (e : Ev f a) {g : Nat → α → Option β} {P : β → Prop} (h : ∃ r, Ev (fun k => g k a) r ∧ P r) : ∃ r, Ev (fun k => (f k).bind (g k)) r ∧ P r := by
  obtain ⟨r, h1, h2⟩ := h
  exact ⟨r, Ev.bind e h1, h2⟩
theorem and255 (x : Int) : 0 ≤ Go.bits .and .i64 x 255 ∧ Go.bits .and .i64 x 255 ≤ 255 := by
  have h : Go.bits .and .i64 x 255 = IntKind.i64.wrap (((BitVec.ofInt 64 x &&& BitVec.ofInt 64 255).toNat : Nat) : Int) := rfl
  rw [h, BitVec.toNat_and, show (BitVec.ofInt 64 255).toNat = 255 from by decide]
  have h3 : (BitVec.ofInt 64 x).toNat &&& 255 ≤ 255 := Nat.and_le_right
  rw [IntKind.wrap_i64]; omega
theorem byte_ok (b : List Int) (i h : Int) (hb : b.length ≤ 1048576) (hi : 0 ≤ i ∧ i ≤ (b.length : Int)) : ∃ x i' h', spec_l1Byte.f b i h = some (x, i', h') ∧ (0 ≤ x ∧ x ≤ 255) ∧ (0 ≤ i' ∧ i' ≤ (b.length : Int)) := by
  unfold spec_l1Byte.f
  by_cases c : i < (b.length : Int)
  · have hw : wrap64 (i + 1) = i + 1 := wrap_in (by omega) (by omega)
    rw [if_pos c, if_pos hi.1, hw]
    exact ⟨_, _, _, rfl, and255 _, by omega, by omega⟩
  · rw [if_neg c]
    exact ⟨_, _, _, rfl, and255 _, hi⟩
theorem below_ok (b : List Int) (i h n : Int) (hb : b.length ≤ 1048576) (hi : 0 ≤ i ∧ i ≤ (b.length : Int)) (hn : 1 ≤ n) (hn' : n ≤ 256) : ∃ x i' h', spec_l1Below.f b i h n = some (x, i', h') ∧ (0 ≤ x ∧ x < n) ∧ (0 ≤ i' ∧ i' ≤ (b.length : Int)) := by
  obtain ⟨x, i', h', e, hx, hi'⟩ := byte_ok b i h hb hi
  have c0 : ¬ n ≤ 0 := by omega
  have c2 : ¬ n = 0 := by omega
  refine ⟨Int.tmod x n, i', h', ?_, ⟨Int.tmod_nonneg n hx.1, Int.tmod_lt_of_pos x (by omega)⟩, hi'⟩
  unfold spec_l1Below.f
  rw [if_neg c0, if_pos hn', e]
  show (if n = 0 then none else some (Int.tmod x n, i', h')) = _
  rw [if_neg c2]
theorem once_ok (b : List Int) (i h n : Int) (hb : b.length ≤ 1048576) (hi : 0 ≤ i ∧ i ≤ (b.length : Int)) (hn : 1 ≤ n) (hn' : n ≤ 256) : ∃ x i' h', spec_l1Once.f b i h n = some (x, i', h') ∧ (0 ≤ i' ∧ i' ≤ (b.length : Int)) := by
  obtain ⟨x, i', h', e, hx, hi'⟩ := below_ok b i h n hb hi hn hn'
  refine ⟨x == 0, i', h', ?_, hi'⟩
  unfold spec_l1Once.f
  rw [e]; rfl
theorem new_ok (b : List Int) (hb : b.length ≤ 1048576) : ∃ h, Ev (fun k => spec_l1New.f k b) (b, 0, h) := by
  have key : ∃ r, Ev (fun k => spec_l1New.l0 k b (wrap64 (10101 + (b.length : Int))) ((0 : Nat) : Int)) r ∧ ∃ h, r = (b, 0, h) := by
    refine ev_to (σ := Int) (fun s i k => spec_l1New.l0 k b s (i : Int)) b.length (fun _ _ => True) (fun r => ∃ h, r = (b, 0, h)) ?_ ?_ (wrap64 (10101 + (b.length : Int))) 0 (Nat.zero_le _) trivial
    · intro s i hi _ ih
      have h1 : (i : Int) < (b.length : Int) := by omega
      apply ex_succ
      simp only [spec_l1New.l0]
      rw [wrap_up hi (by omega)]
      exact ex_ite (fun _ => ex_ite (fun _ => ex_ite (fun _ => ih _ trivial) (fun c => absurd (Int.natCast_nonneg i) c)) (fun _ => ex_now ⟨_, rfl⟩)) (fun _ => ex_now ⟨_, rfl⟩)
    · intro s _
      apply ex_succ
      simp only [spec_l1New.l0]
      exact ex_ite (fun c => absurd c (Int.lt_irrefl _)) (fun _ => ex_now ⟨_, rfl⟩)
  obtain ⟨r, h, x, rfl⟩ := key
  exact ⟨x, h⟩
theorem both_AreWaits2 (l : List S36) (hl : l.length ≤ 2097152) : ∃ r, Ev (fun k => spec_AreWaits.f k l) r ∧ Ev (fun k => impl_AreWaits.f k l) r ∧ (r = true → ∀ j : Nat, j < l.length → (1 ≤ (rd_T36 l (j : Int)).f0 ∧ (rd_T36 l (j : Int)).f0 ≤ 9) ∧ (1 ≤ (rd_T36 l (j : Int)).f1 ∧ (rd_T36 l (j : Int)).f1 ≤ 9) ∧ (rd_T36 l (j : Int)).f0 ≠ (rd_T36 l (j : Int)).f1 ∧ (0 < j → (rd_T36 l ((j - 1 : Nat) : Int)).f0 < (rd_T36 l (j : Int)).f0)) := by
  let Q : Nat → Prop := fun j => (1 ≤ (rd_T36 l (j : Int)).f0 ∧ (rd_T36 l (j : Int)).f0 ≤ 9) ∧ (1 ≤ (rd_T36 l (j : Int)).f1 ∧ (rd_T36 l (j : Int)).f1 ≤ 9) ∧ (rd_T36 l (j : Int)).f0 ≠ (rd_T36 l (j : Int)).f1 ∧ (0 < j → (rd_T36 l ((j - 1 : Nat) : Int)).f0 < (rd_T36 l (j : Int)).f0)
  refine ev_both (σ := Unit) (τ := Unit) (fun _ i k => spec_AreWaits.l0 k l (i : Int)) (fun _ i k => impl_AreWaits.l0 k l l (l.length : Int) (i : Int)) l.length (fun _ _ i => ∀ j, j < i → Q j) (fun r => r = true → ∀ j, j < l.length → Q j) ?_ ?_ () () 0 (Nat.zero_le _) (fun j hj => absurd hj (by omega))
  · intro _ _ i hi hI ih
    have h1 : (i : Int) < (l.length : Int) := by omega
    have e0 := wrap_up hi (by omega)
    by_cases c0 : 1 ≤ (rd_T36 l i).f0 <;> by_cases c1 : (rd_T36 l i).f0 ≤ 9 <;> by_cases c2 : 1 ≤ (rd_T36 l i).f1 <;> by_cases c3 : (rd_T36 l i).f1 ≤ 9 <;> by_cases c4 : (rd_T36 l i).f0 = (rd_T36 l i).f1
    all_goals try (refine ⟨false, Ev.succ ?_, Ev.succ ?_, fun h => nomatch h⟩ <;> (simp [spec_AreWaits.l0, impl_AreWaits.l0, spec_l1In.f, impl_isID.f, impl_in.f, h1, c0, c1, c2, c3, c4]; first | done | exact Ev.now _))
    by_cases c5 : 0 < i
    · have e1 : wrap64 ((i : Int) - 1) = ((i - 1 : Nat) : Int) := wrap_down c5 (by omega)
      have h2 : ((i - 1 : Nat) : Int) < (l.length : Int) := by omega
      have h3 : (i : Int) > 0 := by omega
      by_cases c6 : (rd_T36 l ((i - 1 : Nat) : Int)).f0 ≥ (rd_T36 l i).f0
      · refine ⟨false, Ev.succ ?_, Ev.succ ?_, fun h => nomatch h⟩ <;> (simp only [spec_AreWaits.l0, impl_AreWaits.l0, spec_l1In.f, impl_isID.f, impl_in.f, h1, h2, h3, c0, c1, c2, c3, c4, c6, e1, Int.natCast_nonneg, ge_iff_le, decide_true, if_true, if_false, Option.bind_some]; exact Ev.now _)
      · obtain ⟨r, hs, ht, hR⟩ := ih () () (fun j hj => if hh : j < i then hI j hh else by obtain rfl : j = i := by omega
                                                                                           exact ⟨⟨c0, c1⟩, ⟨c2, c3⟩, c4, fun _ => by omega⟩)
        refine ⟨r, Ev.succ ?_, Ev.succ ?_, hR⟩ <;> (simp only [spec_AreWaits.l0, impl_AreWaits.l0, spec_l1In.f, impl_isID.f, impl_in.f, h1, h2, h3, c0, c1, c2, c3, c4, c6, e1, e0, Int.natCast_nonneg, ge_iff_le, decide_true, if_true, if_false, Option.bind_some]; assumption)
    · have h3 : ¬ ((i : Int) > 0) := by omega
      obtain ⟨r, hs, ht, hR⟩ := ih () () (fun j hj => if hh : j < i then hI j hh else by obtain rfl : j = i := by omega
                                                                                         exact ⟨⟨c0, c1⟩, ⟨c2, c3⟩, c4, fun h => absurd h c5⟩)
      refine ⟨r, Ev.succ ?_, Ev.succ ?_, hR⟩ <;> (simp only [spec_AreWaits.l0, impl_AreWaits.l0, spec_l1In.f, impl_isID.f, impl_in.f, h1, h3, c0, c1, c2, c3, c4, e0, Int.natCast_nonneg, ge_iff_le, decide_true, if_true, if_false, Option.bind_some]; assumption)
  · intro _ _ hI
    refine ⟨true, Ev.succ ?_, Ev.succ ?_, fun _ => hI⟩ <;> (simp [spec_AreWaits.l0, impl_AreWaits.l0]; exact Ev.now _)
theorem asc_Wait (l : List S36) (h : ∀ j : Nat, j < l.length → 0 < j → (rd_T36 l ((j - 1 : Nat) : Int)).f0 < (rd_T36 l (j : Int)).f0) : ∀ d i : Nat, i + d < l.length → (rd_T36 l (i : Int)).f0 ≤ (rd_T36 l ((i + d : Nat) : Int)).f0 := by
  intro d
  induction d with
  | zero => intro i _; exact Int.le_refl _
  | succ d ih =>
    intro i hi
    have h1 := ih i (by omega)
    have h2 := h (i + (d + 1)) hi (by omega)
    rw [show i + (d + 1) - 1 = i + d by omega] at h2
    exact Int.le_trans h1 (Int.le_of_lt h2)
/-- where a key has its place in a list that ascends -/
theorem place_Wait (l : List S36) (a : Int) (h : ∀ j : Nat, j < l.length → 0 < j → (rd_T36 l ((j - 1 : Nat) : Int)).f0 < (rd_T36 l (j : Int)).f0) : ∃ p : Nat, p ≤ l.length ∧ (∀ j : Nat, j < p → (rd_T36 l (j : Int)).f0 < a) ∧ (∀ j : Nat, p ≤ j → j < l.length → a ≤ (rd_T36 l (j : Int)).f0) := by
  have key : ∀ d i : Nat, l.length - i = d → i ≤ l.length → (∀ j : Nat, j < i → (rd_T36 l (j : Int)).f0 < a) → ∃ p : Nat, p ≤ l.length ∧ (∀ j : Nat, j < p → (rd_T36 l (j : Int)).f0 < a) ∧ (∀ j : Nat, p ≤ j → j < l.length → a ≤ (rd_T36 l (j : Int)).f0) := by
    intro d
    induction d with
    | zero => intro i hd hi hI; exact ⟨i, hi, hI, fun j h1 h2 => absurd h2 (by omega)⟩
    | succ d ih =>
      intro i hd hi hI
      by_cases c : (rd_T36 l (i : Int)).f0 < a
      · exact ih (i + 1) (by omega) (by omega) (fun j hj => if hh : j < i then hI j hh else by obtain rfl : j = i := (by omega); exact c)
      · refine ⟨i, hi, hI, fun j h1 h2 => ?_⟩
        have := asc_Wait l h (j - i) i (by omega)
        rw [show i + (j - i) = j by omega] at this
        omega
  exact key _ 0 rfl (Nat.zero_le _) (fun j hj => absurd hj (by omega))
theorem mid_Wait (i j : Nat) (h : i + j ≤ 4194304) : wrap64 ((IntKind.u64.wrap (wrap64 ((i : Int) + (j : Int)))) / 2) = (((i + j) / 2 : Nat) : Int) := by
  have h1 : wrap64 ((i : Int) + (j : Int)) = ((i + j : Nat) : Int) := by unfold wrap64; omega
  rw [h1]
  have h2 : IntKind.u64.wrap ((i + j : Nat) : Int) = ((i + j : Nat) : Int) := by simp [IntKind.wrap, IntKind.signed, IntKind.bits]; omega
  rw [h2]
  unfold wrap64; omega
theorem search_Wait (l : List S36) (a : Int) (hl : l.length ≤ 1048576) (p : Nat) (hp : p ≤ l.length) (h1 : ∀ j : Nat, j < p → (rd_T36 l (j : Int)).f0 < a) (h2 : ∀ j : Nat, p ≤ j → j < l.length → a ≤ (rd_T36 l (j : Int)).f0) : Ev (fun k => impl_Wait_int.f k l a) ((p : Int), decide (p < l.length ∧ (rd_T36 l (p : Int)).f0 = a)) := by
  have hcmp : ∀ x y : Int, impl_SetWait_1.f x y a = some (if x < a then -1 else if x > a then 1 else 0) := by
    intro x y
    by_cases c : x < a <;> by_cases d : x > a <;> simp [impl_SetWait_1.f, cmp_Compare_int.f, cmp_isNaN_int.f, c, d]
  have key : ∀ d i j : Nat, j - i ≤ d → i ≤ p → p ≤ j → j ≤ l.length → Ev (fun k => impl_Wait_int.l0 k l a (l.length : Int) (i : Int) (j : Int)) ((p : Int), decide (p < l.length ∧ (rd_T36 l (p : Int)).f0 = a)) := by
    intro d
    induction d with
    | zero =>
      intro i j hd hi hj hn
      obtain rfl : i = p := by omega
      obtain rfl : i = j := by omega
      apply Ev.succ
      simp only [impl_Wait_int.l0, Int.lt_irrefl, if_false]
      by_cases c : i < l.length
      · have c1 : (i : Int) < (l.length : Int) := by omega
        simp only [c1, Int.natCast_nonneg, if_true, hcmp, Option.bind_some]
        refine Ev.some ?_
        have g := h2 i (Nat.le_refl _) c
        by_cases e : (rd_T36 l (i : Int)).f0 = a
        · simp [e, c]
        · have e1 : ¬ (rd_T36 l (i : Int)).f0 < a := by omega
          have e2 : (rd_T36 l (i : Int)).f0 > a := by omega
          simp [e, e1, e2]
      · have c1 : ¬ (i : Int) < (l.length : Int) := by omega
        simp only [c1, if_false]
        exact Ev.some (by simp [c])
    | succ d ih =>
      intro i j hd hi hj hn
      by_cases hij : i < j
      · have c0 : (i : Int) < (j : Int) := by omega
        have c1 : ((((i + j) / 2 : Nat) : Int)) < (l.length : Int) := by omega
        have c2 : (i + j) / 2 < l.length := by omega
        apply Ev.succ
        simp only [impl_Wait_int.l0, c0, mid_Wait i j (by omega), c1, Int.natCast_nonneg, if_true, hcmp, Option.bind_some]
        by_cases e : (rd_T36 l (((i + j) / 2 : Nat) : Int)).f0 < a
        · have e0 : wrap64 ((((i + j) / 2 : Nat) : Int) + 1) = (((i + j) / 2 + 1 : Nat) : Int) := wrap_up c2 (by omega)
          simp only [e, if_true, e0, show ((-1 : Int) < 0) by decide]
          refine ih _ _ (by omega) ?_ hj hn
          by_cases q : (i + j) / 2 < p
          · omega
          · exact absurd (h2 _ (by omega) c2) (by omega)
        · have e1 : ¬ ((if (rd_T36 l (((i + j) / 2 : Nat) : Int)).f0 > a then (1 : Int) else 0) < 0) := by split <;> omega
          simp only [e, e1, if_false]
          refine ih _ _ (by omega) hi ?_ (by omega)
          by_cases q : p ≤ (i + j) / 2
          · exact q
          · exact absurd (h1 _ (by omega)) e
      · exact ih i j (by omega) hi hj hn
  exact key _ 0 l.length (Nat.le_refl _) (Nat.zero_le _) hp (Nat.le_refl _)
theorem end_SetWait (l : List S36) (a b : Int) (p : Nat) (hl : l.length ≤ 1048576) (hp : p ≤ l.length) (h2 : ∀ j : Nat, p ≤ j → j < l.length → a ≤ (rd_T36 l (j : Int)).f0) (c : ¬ (p < l.length ∧ (rd_T36 l (p : Int)).f0 = a)) (k : Nat) : spec_SetWait.l0 (k + 1) l a b (p : Int) = some (l.take p ++ [(⟨a, b⟩ : S36)] ++ l.drop p, true) := by
  have hl3 : (l.take p ++ [(⟨a, b⟩ : S36)]).length + (l.drop p).length < 8796093022208 := by rw [List.length_append, List.length_take, List.length_drop, List.length_singleton]; omega
  have hl4 : (l.take p).length < 8796093022208 := by rw [List.length_take]; omega
  have hl1 : ([] : List S36).length + (l.take p).length < 8796093022208 := by rw [List.length_take]; simp; omega
  have hpl : (p : Int) ≤ (l.length : Int) := by omega
  by_cases c0 : p < l.length
  · have g1 : (p : Int) < (l.length : Int) := by omega
    have g2 : ¬ (rd_T36 l (p : Int)).f0 < a := by have := h2 p (Nat.le_refl _) c0; omega
    have g3 : ¬ (rd_T36 l (p : Int)).f0 = a := fun e => c ⟨c0, e⟩
    rw [spec_SetWait.l0, if_pos g1, if_pos (Int.natCast_nonneg p), if_neg g2, Option.bind_some, if_pos hpl, Option.bind_some, Int.toNat_natCast, if_pos hl1, Option.bind_some, List.nil_append, if_pos hl4, Option.bind_some, if_neg g3, Option.bind_some, if_pos hl3]
  · have g1 : ¬ (p : Int) < (l.length : Int) := by omega
    rw [spec_SetWait.l0, if_neg g1]
    simp only [Int.natCast_nonneg, Int.toNat_natCast, hpl, if_true, Option.bind_some, hl1, List.nil_append, hl4, hl3]
theorem both_SetWait2 (l : List S36) (a b : Int) (hl : l.length ≤ 1048576) : ∃ r, Ev (fun k => spec_SetWait.f k l a b) r ∧ Ev (fun k => impl_SetWait.f k l a b) r ∧ r.1.length ≤ l.length + 1 ∧ (r.2 = true → (1 ≤ a ∧ a ≤ 9) ∧ (1 ≤ b ∧ b ≤ 9) ∧ a ≠ b ∧ Ev (fun k => spec_AreWaits.f k l) true ∧ ∃ p q : Nat, p ≤ l.length ∧ p ≤ q ∧ r.1 = l.take p ++ [(⟨a, b⟩ : S36)] ++ l.drop q ∧ (∀ j : Nat, j < p → (rd_T36 l (j : Int)).f0 < a) ∧ (∀ j : Nat, q ≤ j → j < l.length → a < (rd_T36 l (j : Int)).f0)) := by
  obtain ⟨ok, eS, eI, hI⟩ := both_AreWaits2 l (by omega)
  have hcap : ([] : List S36).length + l.length < 8796093022208 := by simp; omega
  have hclone : impl_Wait_76.f l = some l := by simp only [impl_Wait_76.f, Option.bind_some, hcap, if_true, List.nil_append]
  have sT : Ev (fun k => spec_SetWait.j0 k l a b true) (l, false) := Ev.succ (by simp only [spec_SetWait.j0, Option.bind_some, hcap, if_true, List.nil_append]; exact Ev.now _)
  have iT : Ev (fun k => impl_SetWait.j0 k l a b l true) (l, false) := Ev.succ (by simp only [impl_SetWait.j0, if_true]; exact Ev.now _)
  by_cases hk : ok = true
  rotate_left 1
  · refine ⟨(l, false), ?_, ?_, Nat.le_succ _, fun h => nomatch h⟩
    · unfold spec_SetWait.f
      refine Ev.bind eS ?_
      simp only [hk, if_false]; exact sT
    · unfold impl_SetWait.f
      simp only [hclone, Option.bind_some]
      refine Ev.bind eI ?_
      simp only [hk, if_false]; exact iT
  subst hk
  have hI := hI rfl
  have hg : ∀ x : Int, spec_l1In.f x 1 9 = some (decide (1 ≤ x) && decide (x ≤ 9)) := by intro x; by_cases c : 1 ≤ x <;> simp [spec_l1In.f, c]
  have hg' : ∀ x : Int, impl_isID.f x = some (decide (1 ≤ x) && decide (x ≤ 9)) := by intro x; by_cases c : 1 ≤ x <;> simp [impl_isID.f, impl_in.f, c]
  have hrest : ∃ r, Ev (fun k => spec_SetWait.j0 k l a b false) r ∧ Ev (fun k => impl_SetWait.j0 k l a b l false) r ∧ r.1.length ≤ l.length + 1 ∧ ∃ p q : Nat, p ≤ l.length ∧ p ≤ q ∧ r.1 = l.take p ++ [(⟨a, b⟩ : S36)] ++ l.drop q ∧ (∀ j : Nat, j < p → (rd_T36 l (j : Int)).f0 < a) ∧ (∀ j : Nat, q ≤ j → j < l.length → a < (rd_T36 l (j : Int)).f0) := by
    obtain ⟨p, hp, h1, h2⟩ := place_Wait l a (fun j hj h0 => (hI j hj).2.2.2 h0)
    have eb := search_Wait l a hl p hp h1 h2
    have hgt : ∀ j : Nat, p + 1 ≤ j → j < l.length → a < (rd_T36 l (j : Int)).f0 := by
      intro j hj hjl
      have g0 := h2 (j - 1) (by omega) (by omega)
      have g1 := (hI j hjl).2.2.2 (by omega)
      omega
    have hcap2 : (l.take p ++ [(⟨a, b⟩ : S36)]).length + l.length < 8796093022208 := by simp; omega
    have hl1 : ([] : List S36).length + (l.take p).length < 8796093022208 := by simp; omega
    have hl2 : ([] ++ l.take p).length < 8796093022208 := by simp; omega
    have htn : ((p : Int)).toNat = p := Int.toNat_natCast p
    have hpl : (p : Int) ≤ (l.length : Int) := by omega
    by_cases c : p < l.length ∧ (rd_T36 l (p : Int)).f0 = a
    · obtain ⟨c0, c1⟩ := c
      have e0 := wrap_up c0 (by omega)
      refine ⟨(l.take p ++ [(⟨a, b⟩ : S36)] ++ l.drop (p + 1), true), ?_, ?_, ?_, p, p + 1, hp, by omega, rfl, h1, hgt⟩
      · apply Ev.succ
        simp only [spec_SetWait.j0, Bool.false_eq_true, if_false]
        show Ev (fun k => spec_SetWait.l0 k l a b ((0 : Nat) : Int)) _
        refine ev_up (σ := Unit) (fun _ i k => spec_SetWait.l0 k l a b (i : Int)) p (fun _ _ => True) (fun _ _ => (l.take p ++ [(⟨a, b⟩ : S36)] ++ l.drop (p + 1), true)) ?_ ?_ () 0 (Nat.zero_le _) trivial
        · intro _ i hi _ ih
          have g1 : (i : Int) < (l.length : Int) := by omega
          apply Ev.succ
          simp only [spec_SetWait.l0, g1, h1 i hi, wrap_up (show i < l.length by omega) (by omega), Int.natCast_nonneg, if_true]
          exact ih () trivial
        · intro _ _
          have g1 : (p : Int) < (l.length : Int) := by omega
          have g2 : ¬ (rd_T36 l (p : Int)).f0 < a := by omega
          have g3 : ((p + 1 : Nat) : Int) ≤ (l.length : Int) := by omega
          have hl3 : (l.take p ++ [(⟨a, b⟩ : S36)]).length + (l.drop (p + 1)).length < 8796093022208 := by simp; omega
          have g4 : ¬ a < a := Int.lt_irrefl a
          apply Ev.succ
          simp only [spec_SetWait.l0, g1, c1, g4, e0, g3, Int.natCast_nonneg, Int.toNat_natCast, hpl, if_true, if_false, Option.bind_some, hl1, hl2, List.nil_append]
          simp only [show (l.take p).length < 8796093022208 by simp; omega, hl3, if_true, Option.bind_some]
          exact Ev.now _
      · apply Ev.succ
        simp only [impl_SetWait.j0, Bool.false_eq_true, if_false]
        refine Ev.bind eb ?_
        have g1 : (p : Int) < (l.length : Int) := by omega
        simp only [c0, c1, g1, and_self, decide_true, Int.natCast_nonneg, Int.toNat_natCast, if_true]
        refine Ev.some ?_
        rw [List.set_eq_take_append_cons_drop, if_pos c0]
        simp
      · simp; omega
    · refine ⟨(l.take p ++ [(⟨a, b⟩ : S36)] ++ l.drop p, true), ?_, ?_, ?_, p, p, hp, Nat.le_refl _, rfl, h1, fun j hj hjl => if hh : p + 1 ≤ j then hgt j hh hjl else by obtain rfl : j = p := (by omega); have := h2 j (Nat.le_refl _) hjl; have : (rd_T36 l (j : Int)).f0 ≠ a := fun e => c ⟨hjl, e⟩; omega⟩
      · apply Ev.succ
        simp only [spec_SetWait.j0, Bool.false_eq_true, if_false]
        show Ev (fun k => spec_SetWait.l0 k l a b ((0 : Nat) : Int)) _
        refine ev_up (σ := Unit) (fun _ i k => spec_SetWait.l0 k l a b (i : Int)) p (fun _ _ => True) (fun _ _ => (l.take p ++ [(⟨a, b⟩ : S36)] ++ l.drop p, true)) ?_ ?_ () 0 (Nat.zero_le _) trivial
        · intro _ i hi _ ih
          have g1 : (i : Int) < (l.length : Int) := by omega
          apply Ev.succ
          simp only [spec_SetWait.l0, g1, h1 i hi, wrap_up (show i < l.length by omega) (by omega), Int.natCast_nonneg, if_true]
          exact ih () trivial
        · intro _ _
          exact Ev.succ (by simp only [end_SetWait l a b p hl hp h2 c]; exact Ev.now _)
      · apply Ev.succ
        simp only [impl_SetWait.j0, Bool.false_eq_true, if_false]
        refine Ev.bind eb ?_
        have hd : decide (p < l.length ∧ (rd_T36 l (p : Int)).f0 = a) = false := decide_eq_false c
        have hins : impl_Wait_81.f l (p : Int) [(⟨a, b⟩ : S36)] = some (l.take p ++ [(⟨a, b⟩ : S36)] ++ l.drop p) := by
          unfold impl_Wait_81.f
          rw [if_pos ⟨Int.natCast_nonneg _, hpl, rfl, by omega⟩, htn]
        simp only [hd, hins, Bool.false_eq_true, if_false, Option.bind_some]
        exact Ev.now _
      · simp; omega
  unfold spec_SetWait.f impl_SetWait.f
  simp only [hclone, hg, hg', Option.bind_some]
  cases ca : (decide (1 ≤ a) && decide (a ≤ 9))
  · refine ⟨(l, false), Ev.bind eS ?_, Ev.bind eI ?_, Nat.le_succ _, fun h => nomatch h⟩
    · simp only [if_true, Bool.false_eq_true, if_false]; exact sT
    · simp only [if_true, Bool.false_eq_true, if_false]; exact iT
  cases cb : (decide (1 ≤ b) && decide (b ≤ 9))
  · refine ⟨(l, false), Ev.bind eS ?_, Ev.bind eI ?_, Nat.le_succ _, fun h => nomatch h⟩
    · simp only [if_true, Bool.false_eq_true, if_false]; exact sT
    · simp only [if_true, Bool.false_eq_true, if_false]; exact iT
  cases cc : (a == b)
  · obtain ⟨r, e1, e2, e3, e4⟩ := hrest
    have hne : a ≠ b := by simpa using cc
    simp only [Bool.and_eq_true, decide_eq_true_eq] at ca cb
    exact ⟨r, Ev.bind eS (by simpa only [if_true] using e1), Ev.bind eI (by simpa only [if_true] using e2), e3, fun _ => ⟨ca, cb, hne, eS, e4⟩⟩
  · exact ⟨(l, false), Ev.bind eS (by simpa only [if_true] using sT), Ev.bind eI (by simpa only [if_true] using iT), Nat.le_succ _, fun h => nomatch h⟩
theorem ev_has_int (xs : List Int) (a : Int) (hl : xs.length ≤ 1048576) : ∃ q, Ev (fun k => slices_Index_int_int.f k xs a) q ∧ ((0 ≤ q ∧ a ∈ xs) ∨ (q < 0 ∧ a ∉ xs)) := by
  have h : ∃ q, Ev (fun k => slices_Index_int_int.l0 k xs a (xs.length : Int) ((0 : Nat) : Int)) q ∧ ((0 ≤ q ∧ a ∈ xs) ∨ (q < 0 ∧ a ∉ xs)) := by
    refine ev_to (σ := Unit) (fun _ i k => slices_Index_int_int.l0 k xs a (xs.length : Int) (i : Int)) xs.length (fun _ i => ∀ j (hj : j < xs.length), j < i → xs[j] ≠ a) (fun q => (0 ≤ q ∧ a ∈ xs) ∨ (q < 0 ∧ a ∉ xs)) ?_ ?_ () 0 (Nat.zero_le _) (fun j hj h => absurd h (by omega))
    · intro _ i hi hI ih
      have h1 : (i : Int) < (xs.length : Int) := by omega
      have e0 := wrap_up hi (by omega)
      have hrd : rd xs (i : Int) = xs[i] := by simp [rd, hi]
      by_cases c : a = rd xs (i : Int)
      · refine ⟨(i : Int), Ev.succ ?_, .inl ⟨by omega, by rw [c, hrd]; exact List.getElem_mem hi⟩⟩
        simp only [slices_Index_int_int.l0, h1, ← c, Int.natCast_nonneg, if_true]; exact Ev.now _
      · obtain ⟨q, hs, hR⟩ := ih () (fun j hj hji => if hh : j < i then hI j hj hh else by obtain rfl : j = i := (by omega); rw [← hrd]; exact fun h => c h.symm)
        refine ⟨q, Ev.succ ?_, hR⟩
        simp only [slices_Index_int_int.l0, h1, c, e0, Int.natCast_nonneg, if_true, if_false]; exact hs
    · intro _ hI
      refine ⟨-1, Ev.succ ?_, .inr ⟨by omega, fun hm => ?_⟩⟩
      · simp only [slices_Index_int_int.l0, Int.lt_irrefl, if_false]; exact Ev.now _
      · obtain ⟨j, hj, hja⟩ := List.getElem_of_mem hm
        exact hI j hj hj hja
  exact h
theorem ev_contains_int (xs : List Int) (a : Int) (hl : xs.length ≤ 1048576) : Ev (fun k => slices_Contains_int_int.f k xs a) (decide (a ∈ xs)) := by
  obtain ⟨q, e, h⟩ := ev_has_int xs a hl
  unfold slices_Contains_int_int.f
  refine Ev.bind e (Ev.some ?_)
  rcases h with ⟨h0, hm⟩ | ⟨h0, hm⟩
  · simp [hm, h0]
  · simp only [hm, decide_false, decide_eq_false_iff_not]; omega
theorem filter_le (p q : Int → Bool) (h : ∀ x, p x = true → q x = true) : ∀ L : List Int, (L.filter p).length ≤ (L.filter q).length
  | [] => by simp
  | y :: L => by
    have ih := filter_le p q h L
    by_cases hp : p y = true
    · simp only [List.filter_cons, hp, h y hp, if_true, List.length_cons]; omega
    · by_cases hq : q y = true <;> simp only [List.filter_cons, hp, hq, if_true, if_false, List.length_cons, Bool.false_eq_true] <;> omega
theorem filter_lt (p q : Int → Bool) (h : ∀ x, p x = true → q x = true) (x : Int) (hx : q x = true) (hx' : p x = false) : ∀ L : List Int, x ∈ L → (L.filter p).length < (L.filter q).length
  | [], hm => absurd hm (by simp)
  | y :: L, hm => by
    have ihl := filter_le p q h L
    by_cases hy : x = y
    · subst hy
      simp only [List.filter_cons, hx, hx', if_true, List.length_cons, Bool.false_eq_true, if_false]; omega
    · have hm' : x ∈ L := by simpa [hy] using hm
      have ih := filter_lt p q h x hx hx' L hm'
      by_cases hp : p y = true
      · simp only [List.filter_cons, hp, h y hp, if_true, List.length_cons]; omega
      · by_cases hq : q y = true <;> simp only [List.filter_cons, hp, hq, if_true, if_false, List.length_cons, Bool.false_eq_true] <;> omega
def nine : List Int := [1, 2, 3, 4, 5, 6, 7, 8, 9]
theorem mem_nine {n : Int} (h : 1 ≤ n) (h' : n ≤ 9) : n ∈ nine := by
  simp only [nine, List.mem_cons, List.not_mem_nil, or_false]; omega
def free (out : List Int) : Nat := (nine.filter (fun x => decide (x ∉ out))).length
theorem free_lt (out : List Int) (n : Int) (h : 1 ≤ n) (h' : n ≤ 9) (hn : n ∉ out) : free (out ++ [n]) < free out := by
  refine filter_lt _ _ ?_ n (by simpa using hn) (by simp) nine (mem_nine h h')
  intro x hx
  simp only [List.mem_append, not_or, decide_eq_true_eq] at hx ⊢
  exact hx.1
theorem last_eq (out : List Int) (n x y : Int) (hl : out.length ≤ 1048576) : impl_WaitChain_1.f x y (out ++ [n]) = some (x == n) := by
  have h1 : wrap64 (((out ++ [n]).length : Int) - 1) = (out.length : Int) := by
    rw [wrap_in (by simp <;> omega) (by simp <;> omega)]; simp
  have h2 : (out.length : Int) < ((out ++ [n]).length : Int) := by simp; omega
  have h3 : rd (out ++ [n]) (out.length : Int) = n := by simp [rd]
  simp only [impl_WaitChain_1.f, h1, h2, h3, Int.natCast_nonneg, if_true]
theorem ev_l1_in (l : List S36) (out : List Int) (n : Int) (hl : out.length ≤ 1048576) (hn : n ∈ out) : Ev (fun k => spec_WaitChain.l1 k l out n ((0 : Nat) : Int)) (out ++ [n]) := by
  refine ev_up (σ := Unit) (fun _ i k => spec_WaitChain.l1 k l out n (i : Int)) out.length (fun _ i => ∀ j (hj : j < out.length), j < i → out[j] ≠ n) (fun _ _ => out ++ [n]) ?_ ?_ () 0 (Nat.zero_le _) (fun j hj h => absurd h (by omega))
  · intro _ i hi hI ih
    have h1 : (i : Int) < (out.length : Int) := by omega
    have e0 := wrap_up hi (by omega)
    have hrd : rd out (i : Int) = out[i] := by simp [rd, hi]
    have h2 : out.length < 17592186044416 := by omega
    apply Ev.succ
    by_cases c : rd out (i : Int) = n
    · simp only [spec_WaitChain.l1, h1, h2, c, Int.natCast_nonneg, if_true]; exact Ev.now _
    · simp only [spec_WaitChain.l1, h1, c, e0, Int.natCast_nonneg, if_true, if_false]
      exact ih () (fun j hj hji => if hh : j < i then hI j hj hh else by obtain rfl : j = i := (by omega); rw [← hrd]; exact c)
  · intro _ hI
    obtain ⟨j, hj, hja⟩ := List.getElem_of_mem hn
    exact absurd hja (hI j hj hj)
theorem ev_l1_out (l : List S36) (out : List Int) (n f : Int) (r : List Int) (hl : out.length ≤ 1048576) (hn : n ∉ out) (hf : Ev (fun k => spec_l11For.f k l n) f) (hr : Ev (fun k => spec_WaitChain.l0 k l (out ++ [n]) f) r) : Ev (fun k => spec_WaitChain.l1 k l out n ((0 : Nat) : Int)) r := by
  refine ev_up (σ := Unit) (fun _ i k => spec_WaitChain.l1 k l out n (i : Int)) out.length (fun _ _ => True) (fun _ _ => r) ?_ ?_ () 0 (Nat.zero_le _) trivial
  · intro _ i hi hI ih
    have h1 : (i : Int) < (out.length : Int) := by omega
    have e0 := wrap_up hi (by omega)
    have hrd : rd out (i : Int) = out[i] := by simp [rd, hi]
    have c : ¬ rd out (i : Int) = n := by rw [hrd]; exact fun h => hn (h ▸ List.getElem_mem hi)
    apply Ev.succ
    simp only [spec_WaitChain.l1, h1, c, e0, Int.natCast_nonneg, if_true, if_false]
    exact ih () trivial
  · intro _ _
    have h2 : out.length < 17592186044416 := by omega
    apply Ev.succ
    simp only [spec_WaitChain.l1, Int.lt_irrefl, h2, if_true, if_false]
    exact Ev.bind hf hr
theorem both_For (l : List S36) (out : List Int) (n : Int) (hl : l.length ≤ 2097152) (ho : out.length ≤ 1048576) : ∃ f q, Ev (fun k => spec_l11For.f k l n) f ∧ Ev (fun k => impl_Wait_83_b7.f k l (out ++ [n])) q ∧ ((q < 0 ∧ f = 0 ∧ ∀ j : Nat, j < l.length → (rd_T36 l (j : Int)).f0 ≠ n) ∨ (0 ≤ q ∧ q < (l.length : Int) ∧ f = (rd_T36 l q).f1 ∧ (rd_T36 l q).f0 = n)) := by
  refine ev_two (σ := Unit) (τ := Unit) (fun _ i k => spec_l11For.l0 k l n (i : Int)) (fun _ i k => impl_Wait_83_b7.l0 k l (l.length : Int) (i : Int) (out ++ [n])) l.length (fun _ _ i => ∀ j : Nat, j < i → (rd_T36 l (j : Int)).f0 ≠ n) (fun f q => ((q < 0 ∧ f = 0 ∧ ∀ j : Nat, j < l.length → (rd_T36 l (j : Int)).f0 ≠ n) ∨ (0 ≤ q ∧ q < (l.length : Int) ∧ f = (rd_T36 l q).f1 ∧ (rd_T36 l q).f0 = n))) ?_ ?_ () () 0 (Nat.zero_le _) (fun j hj => absurd hj (by omega))
  · intro _ _ i hi hI ih
    have h1 : (i : Int) < (l.length : Int) := by omega
    have e0 := wrap_up hi (by omega)
    have e1 := fun x y => last_eq out n x y ho
    by_cases c : (rd_T36 l i).f0 = n
    · refine ⟨(rd_T36 l i).f1, (i : Int), Ev.succ ?_, Ev.succ ?_, .inr ⟨by omega, h1, rfl, c⟩⟩ <;> (simp only [spec_l11For.l0, impl_Wait_83_b7.l0, e1, h1, c, beq_self_eq_true, Int.natCast_nonneg, if_true, Option.bind_some]; exact Ev.now _)
    · obtain ⟨f, q, hs, ht, hR⟩ := ih () () (fun j hj => if hh : j < i then hI j hh else by obtain rfl : j = i := (by omega); exact c)
      have cb : ((rd_T36 l i).f0 == n) = false := by simpa using c
      refine ⟨f, q, Ev.succ ?_, Ev.succ ?_, hR⟩ <;> (simp only [spec_l11For.l0, impl_Wait_83_b7.l0, e1, h1, c, cb, e0, Int.natCast_nonneg, if_true, if_false, Option.bind_some, Bool.false_eq_true]; assumption)
  · intro _ _ hI
    refine ⟨0, -1, Ev.succ ?_, Ev.succ ?_, .inl ⟨by omega, rfl, hI⟩⟩ <;> (simp only [spec_l11For.l0, impl_Wait_83_b7.l0, Int.lt_irrefl, if_false]; exact Ev.now _)
theorem both_WaitChain3 (l : List S36) (a : Int) (hl : l.length ≤ 2097152) : ∃ r, Ev (fun k => spec_WaitChain.f k l a) r ∧ Ev (fun k => impl_WaitChain.f k l a) r ∧ r.length ≤ 10 ∧ (Ev (fun k => spec_AreWaits.f k l) true → 1 ≤ a → a ≤ 9 → ∀ j : Nat, j < l.length → (rd_T36 l (j : Int)).f0 = a → ∃ rest, r = [a, (rd_T36 l (j : Int)).f1] ++ rest) := by
  obtain ⟨b, eA, eA', hA⟩ := both_AreWaits2 l hl
  by_cases hb : b = true
  rotate_left 1
  · refine ⟨[], ?_, ?_, by simp, fun h => absurd (Ev.uniq eA h) hb⟩
    · show Ev (fun k => spec_WaitChain.l0 k l [] a) _
      apply Ev.succ
      by_cases h0 : a > 0
      · simp only [spec_WaitChain.l0, h0, if_true]
        refine Ev.bind eA ?_
        simp only [hb, if_false]
        apply Ev.succ
        simp only [spec_WaitChain.j1, Bool.false_eq_true, if_false]; exact Ev.now _
      · simp only [spec_WaitChain.l0, h0, if_false]
        apply Ev.succ
        simp only [spec_WaitChain.j1, Bool.false_eq_true, if_false]; exact Ev.now _
    · unfold impl_WaitChain.f
      refine Ev.bind eA' ?_
      simp only [hb, if_false]
      apply Ev.succ
      simp only [impl_WaitChain.j0, if_true]; exact Ev.now _
  subst hb
  have hA := hA rfl
  by_cases ha : 1 ≤ a ∧ a ≤ 9
  rotate_left 1
  · refine ⟨[], ?_, ?_, by simp, fun _ h1 h2 => absurd ⟨h1, h2⟩ ha⟩
    · show Ev (fun k => spec_WaitChain.l0 k l [] a) _
      apply Ev.succ
      by_cases h0 : a > 0
      · have h9 : ¬ a ≤ 9 := by omega
        simp only [spec_WaitChain.l0, h0, if_true]
        refine Ev.bind eA ?_
        simp only [h9, if_true, decide_false]
        apply Ev.succ
        simp only [spec_WaitChain.j1, Bool.false_eq_true, if_false]; exact Ev.now _
      · simp only [spec_WaitChain.l0, h0, if_false]
        apply Ev.succ
        simp only [spec_WaitChain.j1, Bool.false_eq_true, if_false]; exact Ev.now _
    · unfold impl_WaitChain.f
      refine Ev.bind eA' ?_
      have hid : impl_isID.f a = some false := by
        unfold impl_isID.f impl_in.f
        by_cases h1 : 1 ≤ a
        · have h9 : ¬ a ≤ 9 := by omega
          simp [h1, h9]
        · simp [h1]
      simp only [hid, if_true, Option.bind_some, Bool.not_false]
      apply Ev.succ
      simp only [impl_WaitChain.j0, if_true]; exact Ev.now _
  have hid : impl_isID.f a = some true := by simp [impl_isID.f, impl_in.f, ha.1, ha.2]
  have spec_in : ∀ (out : List Int) (n : Int) (r : List Int), 1 ≤ n → n ≤ 9 → Ev (fun k => spec_WaitChain.l1 k l out n ((0 : Nat) : Int)) r → Ev (fun k => spec_WaitChain.l0 k l out n) r := by
    intro out n r h1 h9 h
    have h0 : n > 0 := by omega
    apply Ev.succ
    simp only [spec_WaitChain.l0, h0, if_true]
    refine Ev.bind eA ?_
    simp only [h9, if_true, decide_true]
    apply Ev.succ
    simp only [spec_WaitChain.j1, if_true]; exact h
  have huniq : ∀ q j : Nat, q < l.length → j < l.length → (rd_T36 l (q : Int)).f0 = (rd_T36 l (j : Int)).f0 → q = j := by
    have lt : ∀ q j : Nat, q < j → j < l.length → (rd_T36 l (q : Int)).f0 < (rd_T36 l (j : Int)).f0 := by
      intro q j h hj
      have g0 := asc_Wait l (fun j hj h0 => (hA j hj).2.2.2 h0) (j - 1 - q) q (by omega)
      have g1 := (hA j hj).2.2.2 (by omega)
      rw [show q + (j - 1 - q) = j - 1 by omega] at g0
      omega
    intro q j hq hj e
    rcases Nat.lt_trichotomy q j with h | h | h
    · have := lt q j h hj; omega
    · exact h
    · have := lt j q h hq; omega
  have key : ∀ (m : Nat) (out : List Int) (n : Int), out.length + m ≤ 9 → free out ≤ m → n ∉ out → 1 ≤ n → n ≤ 9 → ∃ r, Ev (fun k => spec_WaitChain.l0 k l out n) r ∧ Ev (fun k => impl_WaitChain.l0 k l (out ++ [n])) r ∧ r.length ≤ 10 ∧ (∃ rest, r = out ++ [n] ++ rest) ∧ (∀ j : Nat, j < l.length → (rd_T36 l (j : Int)).f0 = n → ∃ rest, r = out ++ [n] ++ [(rd_T36 l (j : Int)).f1] ++ rest) := by
    intro m
    induction m with
    | zero => intro out n _ hf hn h1 h9; have := free_lt out n h1 h9 hn; omega
    | succ m ih =>
      intro out n hlen hf hn h1 h9
      have hfree := free_lt out n h1 h9 hn
      obtain ⟨f, q, eF, eQ, hR⟩ := both_For l out n hl (by omega)
      rcases hR with ⟨hq, rfl, hno⟩ | ⟨hq, hql, hfv, hf0⟩
      · refine ⟨out ++ [n], spec_in out n _ h1 h9 (ev_l1_out l out n 0 _ (by omega) hn eF ?_), Ev.succ ?_, by simp; omega, ⟨[], by simp⟩, fun j hj e => absurd e (hno j hj)⟩
        · apply Ev.succ
          simp only [spec_WaitChain.l0, gt_iff_lt, Int.lt_irrefl, if_false]
          apply Ev.succ
          simp only [spec_WaitChain.j1, Bool.false_eq_true, if_false]; exact Ev.now _
        · simp only [impl_WaitChain.l0]
          refine Ev.bind eQ ?_
          simp only [hq, if_true]; exact Ev.now _
      · have hfr : 1 ≤ f ∧ f ≤ 9 := by
          obtain ⟨j, rfl⟩ := Int.eq_ofNat_of_zero_le hq
          rw [hfv]; exact (hA j (by omega)).2.1
        have hq' : ¬ q < 0 := by omega
        have hone : ∀ j : Nat, j < l.length → (rd_T36 l (j : Int)).f0 = n → (rd_T36 l (j : Int)).f1 = f := by
          intro j hj e
          obtain ⟨q, rfl⟩ := Int.eq_ofNat_of_zero_le hq
          have := huniq q j (by omega) hj (by rw [hf0, e])
          rw [hfv, this]
        have hol : (out ++ [n]).length < 17592186044416 := by simp; omega
        have eC := ev_contains_int (out ++ [n]) f (by simp; omega)
        by_cases hm : f ∈ out ++ [n]
        · refine ⟨(out ++ [n]) ++ [f], spec_in out n _ h1 h9 (ev_l1_out l out n f _ (by omega) hn eF (spec_in _ _ _ hfr.1 hfr.2 (ev_l1_in l _ f (by simp; omega) hm))), Ev.succ ?_, by simp; omega, ⟨[f], by simp⟩, fun j hj e => ⟨[], by rw [hone j hj e]; simp⟩⟩
          simp only [impl_WaitChain.l0]
          refine Ev.bind eQ ?_
          simp only [hq, hq', hql, ← hfv, if_true, if_false]
          refine Ev.bind eC ?_
          simp only [hm, hol, decide_true, if_true, Option.bind_some]; exact Ev.now _
        · obtain ⟨r, e1, e2, hr, ⟨rest, hr1⟩, -⟩ := ih (out ++ [n]) f (by simp; omega) (by omega) hm hfr.1 hfr.2
          refine ⟨r, spec_in out n _ h1 h9 (ev_l1_out l out n f _ (by omega) hn eF e1), Ev.succ ?_, hr, ⟨[f] ++ rest, by rw [hr1]; simp⟩, fun j hj e => ⟨rest, by rw [hone j hj e, hr1]⟩⟩
          simp only [impl_WaitChain.l0]
          refine Ev.bind eQ ?_
          simp only [hq, hq', hql, ← hfv, if_true, if_false]
          refine Ev.bind eC ?_
          simp only [hm, hol, decide_false, if_true, if_false, Option.bind_some, Bool.false_eq_true]; exact e2
  obtain ⟨r, e1, e2, hr, -, hr2⟩ := key 9 [] a (by simp) (by simp [free, nine]) (by simp) ha.1 ha.2
  refine ⟨r, e1, ?_, hr, fun _ _ _ j hj e => by simpa using hr2 j hj e⟩
  unfold impl_WaitChain.f
  refine Ev.bind eA' ?_
  simp only [hid, if_true, Option.bind_some, Bool.not_true]
  apply Ev.succ
  simp only [impl_WaitChain.j0, Bool.false_eq_true, if_false]; exact e2
theorem are_true (l : List S36) (hl : l.length ≤ 2097152) (h : ∀ j : Nat, j < l.length → (1 ≤ (rd_T36 l (j : Int)).f0 ∧ (rd_T36 l (j : Int)).f0 ≤ 9) ∧ (1 ≤ (rd_T36 l (j : Int)).f1 ∧ (rd_T36 l (j : Int)).f1 ≤ 9) ∧ (rd_T36 l (j : Int)).f0 ≠ (rd_T36 l (j : Int)).f1 ∧ (0 < j → (rd_T36 l ((j - 1 : Nat) : Int)).f0 < (rd_T36 l (j : Int)).f0)) : Ev (fun k => spec_AreWaits.f k l) true := by
  refine ev_up (σ := Unit) (fun _ i k => spec_AreWaits.l0 k l (i : Int)) l.length (fun _ _ => True) (fun _ _ => true) ?_ ?_ () 0 (Nat.zero_le _) trivial
  · intro _ i hi _ ih
    obtain ⟨⟨c0, c1⟩, ⟨c2, c3⟩, c4, c7⟩ := h i hi
    have h1 : (i : Int) < (l.length : Int) := by omega
    have e0 := wrap_up hi (by omega)
    by_cases c5 : 0 < i
    · have e1 : wrap64 ((i : Int) - 1) = ((i - 1 : Nat) : Int) := wrap_down c5 (by omega)
      have h2 : ((i - 1 : Nat) : Int) < (l.length : Int) := by omega
      have h3 : (i : Int) > 0 := by omega
      have c6 : ¬ (rd_T36 l ((i - 1 : Nat) : Int)).f0 ≥ (rd_T36 l i).f0 := by have := c7 c5; omega
      apply Ev.succ
      simp only [spec_AreWaits.l0, spec_l1In.f, h1, h2, h3, c0, c1, c2, c3, c4, c6, e1, e0, Int.natCast_nonneg, ge_iff_le, decide_true, if_true, if_false, Option.bind_some]
      exact ih () trivial
    · have h3 : ¬ ((i : Int) > 0) := by omega
      apply Ev.succ
      simp only [spec_AreWaits.l0, spec_l1In.f, h1, h3, c0, c1, c2, c3, c4, e0, Int.natCast_nonneg, ge_iff_le, decide_true, if_true, if_false, Option.bind_some]
      exact ih () trivial
  · intro _ _
    apply Ev.succ
    simp only [spec_AreWaits.l0, Int.lt_irrefl, if_false]; exact Ev.now _
def okW (e : S36) : Prop := (1 ≤ e.f0 ∧ e.f0 ≤ 9) ∧ (1 ≤ e.f1 ∧ e.f1 ≤ 9) ∧ e.f0 ≠ e.f1
theorem rdW (l : List S36) (j : Nat) (hj : j < l.length) : rd_T36 l (j : Int) = l[j] := by simp [rd_T36, hj]
theorem waits_set (l : List S36) (a b : Int) (p q : Nat) (hp : p ≤ l.length) (hpq : p ≤ q) (ha : 1 ≤ a ∧ a ≤ 9) (hb : 1 ≤ b ∧ b ≤ 9) (hab : a ≠ b)
    (h1 : ∀ j : Nat, j < p → (rd_T36 l (j : Int)).f0 < a) (h2 : ∀ j : Nat, q ≤ j → j < l.length → a < (rd_T36 l (j : Int)).f0)
    (h : ∀ j : Nat, j < l.length → (1 ≤ (rd_T36 l (j : Int)).f0 ∧ (rd_T36 l (j : Int)).f0 ≤ 9) ∧ (1 ≤ (rd_T36 l (j : Int)).f1 ∧ (rd_T36 l (j : Int)).f1 ≤ 9) ∧ (rd_T36 l (j : Int)).f0 ≠ (rd_T36 l (j : Int)).f1 ∧ (0 < j → (rd_T36 l ((j - 1 : Nat) : Int)).f0 < (rd_T36 l (j : Int)).f0)) :
    let m := l.take p ++ [(⟨a, b⟩ : S36)] ++ l.drop q
    (∀ j : Nat, j < m.length → (1 ≤ (rd_T36 m (j : Int)).f0 ∧ (rd_T36 m (j : Int)).f0 ≤ 9) ∧ (1 ≤ (rd_T36 m (j : Int)).f1 ∧ (rd_T36 m (j : Int)).f1 ≤ 9) ∧ (rd_T36 m (j : Int)).f0 ≠ (rd_T36 m (j : Int)).f1 ∧ (0 < j → (rd_T36 m ((j - 1 : Nat) : Int)).f0 < (rd_T36 m (j : Int)).f0)) ∧ (∃ j : Nat, j < m.length ∧ (rd_T36 m (j : Int)).f0 = a ∧ (rd_T36 m (j : Int)).f1 = b) := by
  intro m
  have hall : ∀ e ∈ l, okW e := by
    intro e he
    obtain ⟨j, hj, rfl⟩ := List.getElem_of_mem he
    have g := h j hj
    rw [rdW l j hj] at g
    exact ⟨g.1, g.2.1, g.2.2.1⟩
  have hpw : l.Pairwise (fun x y => x.f0 < y.f0) := by
    rw [List.pairwise_iff_getElem]
    intro i j hi hj hij
    have g0 := asc_Wait l (fun j hj h0 => (h j hj).2.2.2 h0) (j - 1 - i) i (by omega)
    have g1 := (h j hj).2.2.2 (by omega)
    rw [show i + (j - 1 - i) = j - 1 by omega] at g0
    rw [rdW l i hi] at g0
    rw [rdW l j hj] at g1
    omega
  have hall' : ∀ e ∈ m, okW e := by
    intro e he
    simp only [m, List.mem_append, List.mem_singleton] at he
    rcases he with (he | rfl) | he
    · exact hall e (List.mem_of_mem_take he)
    · exact ⟨ha, hb, hab⟩
    · exact hall e (List.mem_of_mem_drop he)
  have hlo : ∀ e ∈ l.take p, e.f0 < a := by
    intro e he
    obtain ⟨j, hj, rfl⟩ := List.getElem_of_mem he
    rw [List.length_take] at hj
    have g := h1 j (by omega)
    rw [rdW l j (by omega)] at g
    rw [List.getElem_take]; exact g
  have hhi : ∀ e ∈ l.drop q, a < e.f0 := by
    intro e he
    obtain ⟨j, hj, rfl⟩ := List.getElem_of_mem he
    rw [List.length_drop] at hj
    have g := h2 (q + j) (by omega) (by omega)
    rw [rdW l (q + j) (by omega)] at g
    rw [List.getElem_drop]; exact g
  have hpw' : m.Pairwise (fun x y => x.f0 < y.f0) := by
    simp only [m]
    rw [List.pairwise_append, List.pairwise_append]
    refine ⟨⟨hpw.sublist (List.take_sublist _ _), List.pairwise_singleton _ _, ?_⟩, hpw.sublist (List.drop_sublist _ _), ?_⟩
    · intro x hx y hy
      rw [List.mem_singleton] at hy
      subst hy; exact hlo x hx
    · intro x hx y hy
      have gy := hhi y hy
      rw [List.mem_append, List.mem_singleton] at hx
      rcases hx with hx | rfl
      · have := hlo x hx; omega
      · exact gy
  refine ⟨?_, ?_⟩
  · intro j hj
    have g := hall' _ (List.getElem_mem hj)
    rw [rdW m j hj]
    refine ⟨g.1, g.2.1, g.2.2, fun h0 => ?_⟩
    rw [rdW m (j - 1) (by omega)]
    rw [List.pairwise_iff_getElem] at hpw'
    exact hpw' (j - 1) j (by omega) hj (by omega)
  · have hlen : (l.take p).length = p := by rw [List.length_take]; omega
    have hpm : p < m.length := by simp only [m, List.length_append, List.length_singleton]; omega
    refine ⟨p, hpm, ?_⟩
    rw [rdW m p hpm]
    have : m[p] = (⟨a, b⟩ : S36) := by
      simp only [m]
      rw [List.getElem_append_left (by simp; omega), List.getElem_append_right (by omega)]
      simp
    rw [this]; exact ⟨rfl, rfl⟩
theorem dead (l : List S36) (a b : Int) (hl : l.length ≤ 1048576) : ∃ m ok r c, Ev (fun k => spec_SetWait.f k l a b) (m, ok) ∧ Ev (fun k => impl_SetWait.f k l a b) (m, ok) ∧ m.length ≤ l.length + 1 ∧ Ev (fun k => spec_WouldDeadlock.f k l a b) r ∧ Ev (fun k => impl_WouldDeadlock.f k l a b) r ∧ Ev (fun k => spec_WaitChain.f k m a) c ∧ Ev (fun k => impl_WaitChain.f k m a) c ∧ c.length ≤ 10 ∧ (ok = true → (∃ rest, c = [a, b] ++ rest) ∧ r = (rd c ((c.length - 1 : Nat) : Int) == a)) := by
  obtain ⟨⟨m, ok⟩, e1, e2, hlen, hok⟩ := both_SetWait2 l a b hl
  dsimp only at hlen
  obtain ⟨c, e3, e4, hc, hc2⟩ := both_WaitChain3 m a (by omega)
  cases ok
  · refine ⟨m, false, false, c, e1, e2, hlen, ?_, ?_, e3, e4, hc, fun h => nomatch h⟩
    · unfold spec_WouldDeadlock.f
      exact Ev.bind e1 (by simp only [Bool.false_eq_true, if_false]; exact Ev.now _)
    · unfold impl_WouldDeadlock.f
      exact Ev.bind e2 (by simp only [Bool.false_eq_true, if_false]; exact Ev.now _)
  obtain ⟨ha, hb, hab, eA, p, q, hp, hpq, hm, h1, h2⟩ := hok rfl
  obtain ⟨v, eS, -, hv⟩ := both_AreWaits2 l (by omega)
  have hv := hv (Ev.uniq eS eA)
  dsimp only at hm
  obtain ⟨g1, j, g2, g3, g4⟩ := waits_set l a b p q hp hpq ha hb hab h1 h2 hv
  rw [← hm] at g1 g2 g3 g4
  obtain ⟨rest, hrest⟩ := hc2 (are_true m (by omega) g1) ha.1 ha.2 j g2 g3
  rw [g4] at hrest
  have hc3 : 2 ≤ c.length := by rw [hrest]; simp
  have hw : wrap64 ((c.length : Int) - 1) = ((c.length - 1 : Nat) : Int) := wrap_down (by omega) (by omega)
  have k1 : (c.length : Int) > 1 := by omega
  have k2 : ((c.length - 1 : Nat) : Int) < (c.length : Int) := by omega
  refine ⟨m, true, rd c ((c.length - 1 : Nat) : Int) == a, c, e1, e2, hlen, ?_, ?_, e3, e4, hc, fun _ => ⟨⟨rest, hrest⟩, rfl⟩⟩
  · unfold spec_WouldDeadlock.f
    refine Ev.bind e1 ?_
    simp only [if_true]
    refine Ev.bind e3 ?_
    simp only [k1, hw, k2, Int.natCast_nonneg, if_true]; exact Ev.now _
  · unfold impl_WouldDeadlock.f
    refine Ev.bind e2 ?_
    simp only [if_true]
    refine Ev.bind e4 ?_
    simp only [hw, k2, Int.natCast_nonneg, if_true]; exact Ev.now _
theorem ev_first (p : S36 → Bool) (a : Int) (hp : ∀ e : S36, impl_ClearWaits_1.f e.f0 e.f1 a = some (p e)) (l : List S36) (hl : l.length ≤ 1048576) : ∃ q, Ev (fun k => impl_Wait_83.f k l a) q ∧ ((q = -1 ∧ ∀ j (hj : j < l.length), p l[j] = false) ∨ (∃ t : Nat, ∃ ht : t < l.length, q = (t : Int) ∧ p l[t] = true ∧ ∀ j (hj : j < l.length), j < t → p l[j] = false)) := by
  show ∃ q, Ev (fun k => impl_Wait_83.l0 k l (l.length : Int) ((0 : Nat) : Int) a) q ∧ _
  refine ev_to (σ := Unit) (fun _ i k => impl_Wait_83.l0 k l (l.length : Int) (i : Int) a) l.length (fun _ i => ∀ j (hj : j < l.length), j < i → p l[j] = false) (fun q => (q = -1 ∧ ∀ j (hj : j < l.length), p l[j] = false) ∨ (∃ t : Nat, ∃ ht : t < l.length, q = (t : Int) ∧ p l[t] = true ∧ ∀ j (hj : j < l.length), j < t → p l[j] = false)) ?_ ?_ () 0 (Nat.zero_le _) (fun j hj h => absurd h (by omega))
  · intro _ i hi hI ih
    have h1 : (i : Int) < (l.length : Int) := by omega
    have e0 := wrap_up hi (by omega)
    have hrd : rd_T36 l (i : Int) = l[i] := by simp [rd_T36, hi]
    by_cases c : p (rd_T36 l (i : Int)) = true
    · refine ⟨(i : Int), Ev.succ ?_, .inr ⟨i, hi, rfl, by rw [← hrd]; exact c, hI⟩⟩
      simp only [impl_Wait_83.l0, h1, hp, c, Int.natCast_nonneg, if_true, Option.bind_some]; exact Ev.now _
    · have cb : p (rd_T36 l (i : Int)) = false := by simpa using c
      obtain ⟨q, hs, hR⟩ := ih () (fun j hj hji => if hh : j < i then hI j hj hh else by obtain rfl : j = i := (by omega); rw [← hrd]; exact cb)
      refine ⟨q, Ev.succ ?_, hR⟩
      simp only [impl_Wait_83.l0, h1, hp, cb, e0, Int.natCast_nonneg, if_true, if_false, Option.bind_some, Bool.false_eq_true]; exact hs
  · intro _ hI
    refine ⟨-1, Ev.succ ?_, .inl ⟨rfl, fun j hj => hI j hj hj⟩⟩
    simp only [impl_Wait_83.l0, Int.lt_irrefl, if_false]; exact Ev.now _
theorem ev_delete (p : S36 → Bool) (a : Int) (hp : ∀ e : S36, impl_ClearWaits_1.f e.f0 e.f1 a = some (p e)) (l : List S36) (hl : l.length ≤ 1048576) : Ev (fun k => impl_Wait_87.f k l a) (l.filter (fun e => !p e)) := by
  obtain ⟨q, eq, hq⟩ := ev_first p a hp l hl
  unfold impl_Wait_87.f
  refine Ev.bind eq ?_
  rcases hq with ⟨rfl, hn⟩ | ⟨t, ht, rfl, hpt, hn⟩
  · simp only [if_true, filter_none hn]; exact Ev.now _
  · have hne : ¬ ((t : Int) = -1) := by omega
    have e0 := wrap_up ht (by omega)
    simp only [hne, if_false, e0]
    refine ev_up (σ := List S36 × Nat) (fun s j k => impl_Wait_87.l0 k s.1 (s.2 : Int) (j : Int) a) l.length (fun s j => Del p l s.1 s.2 j) (fun _ _ => l.filter (fun e => !p e)) ?_ ?_ (l, t) (t + 1) (by omega) (Del.start ht hpt hn)
    · rintro ⟨xs, i⟩ j hj hI ih
      have hlen := hI.1
      have hij := hI.2.1
      dsimp only at hlen hij hI ih ⊢
      have h1 : (j : Int) < (xs.length : Int) := by omega
      have hjx : j < xs.length := by omega
      have e1 := wrap_up hj (by omega)
      have hrd : rd_T36 xs (j : Int) = l[j] := by rw [← hI.get hjx hj]; simp [rd_T36, hjx]
      apply Ev.succ
      by_cases c : p (rd_T36 xs (j : Int)) = true
      · simp only [impl_Wait_87.l0, h1, hp, c, e1, Int.natCast_nonneg, if_true, Option.bind_some]
        exact ih (xs, i) (hI.skip hj (by rw [← hrd]; exact c))
      · have cb : p (rd_T36 xs (j : Int)) = false := by simpa using c
        have h2 : (i : Int) < (xs.length : Int) := by omega
        have e2 := wrap_up (show i < l.length by omega) (by omega)
        simp only [impl_Wait_87.l0, h1, h2, hp, cb, e1, e2, Int.natCast_nonneg, if_true, if_false, Option.bind_some, Bool.false_eq_true, Int.toNat_natCast]
        exact ih (xs.set i (rd_T36 xs (j : Int)), i + 1) (hI.keep hj (by rw [← hrd]; exact cb) hrd)
    · rintro ⟨xs, i⟩ hI
      have hlen := hI.1
      have hij := hI.2.1
      dsimp only at hlen hij hI ⊢
      have h1 : ¬ ((l.length : Int) < (xs.length : Int)) := by omega
      have h2 : (i : Int) ≤ (xs.length : Int) := by omega
      apply Ev.succ
      simp only [impl_Wait_87.l0, h1, h2, Int.natCast_nonneg, if_true, if_false, Int.toNat_natCast]
      refine Ev.some ?_
      rw [← hI.done]
      unfold clr
      rw [List.take_append_of_le_length (by rw [List.length_take]; omega), List.take_take, Nat.min_self]
theorem ev_filter (p : S36 → Bool) (a : Int) (L : Nat → List S36 → Int → Option (List S36)) (l : List S36) (hl : l.length ≤ 1048576)
    (hstop : ∀ k ys, L (k + 1) ys (l.length : Int) = some ys)
    (hgo : ∀ k ys i (hi : i < l.length), ys.length ≤ 1048576 → L (k + 1) ys (i : Int) = if p l[i] = true then L k ys ((i + 1 : Nat) : Int) else L k (ys ++ [l[i]]) ((i + 1 : Nat) : Int)) : Ev (fun k => L k [] ((0 : Nat) : Int)) (l.filter (fun e => !p e)) := by
  refine ev_up (σ := List S36) (fun ys i k => L k ys (i : Int)) l.length (fun ys i => ys = (l.take i).filter (fun e => !p e)) (fun _ _ => l.filter (fun e => !p e)) ?_ ?_ [] 0 (Nat.zero_le _) (by simp)
  · rintro ys i hi rfl ih
    have hle : ((l.take i).filter (fun e => !p e)).length ≤ 1048576 := Nat.le_trans (List.length_filter_le ..) (by rw [List.length_take]; omega)
    apply Ev.succ
    simp only [hgo _ _ i hi hle]
    by_cases c : p l[i] = true
    · simp only [c, if_true]
      exact ih _ (by rw [take_succ_filter _ _ _ hi]; simp [c])
    · simp only [c, Bool.false_eq_true, if_false]
      exact ih _ (by rw [take_succ_filter _ _ _ hi]; simp [c])
  · rintro ys rfl
    apply Ev.succ
    simp only [hstop]
    exact Ev.some (by rw [List.take_length])
theorem both_ClearWaits (l : List S36) (a : Int) (hl : l.length ≤ 1048576) : ∃ r, Ev (fun k => spec_ClearWaits.f k l a) r ∧ Ev (fun k => impl_ClearWaits.f k l a) r ∧ r = l.filter (fun e => !(e.f0 == a || e.f1 == a)) := by
  refine ⟨l.filter (fun e => !(e.f0 == a || e.f1 == a)), ?_, ?_, rfl⟩
  · refine ev_filter (fun e => (e.f0 == a || e.f1 == a)) a (fun k ys i => spec_ClearWaits.l0 k l a ys i) l hl ?_ ?_
    · intro k ys
      simp only [spec_ClearWaits.l0, Int.lt_irrefl, if_false]
    · intro k ys i hi hys
      have h1 : (i : Int) < (l.length : Int) := by omega
      have h2 : ys.length < 2932031007402 := by omega
      have h3 : ys.length < 8796093022208 := by omega
      have hrd : rd_T36 l (i : Int) = l[i] := by simp [rd_T36, hi]
      simp only [spec_ClearWaits.l0, h1, h2, h3, hrd, Int.natCast_nonneg, if_true, wrap_up hi (by omega)]
      by_cases c : l[i].f0 = a <;> by_cases d : l[i].f1 = a <;> simp [c, d]
  · unfold impl_ClearWaits.f impl_Wait_76.f
    have h2 : ([] : List S36).length + l.length < 2932031007402 := by simp; omega
    have h3 : ([] : List S36).length + l.length < 8796093022208 := by simp; omega
    simp only [Option.bind_some, h2, h3, if_true, List.nil_append]
    exact Ev.bind (ev_delete (fun e => (e.f0 == a || e.f1 == a)) a (by intro e; by_cases c : e.f0 = a <;> simp [impl_ClearWaits_1.f, c]) l hl) (Ev.now _)
theorem waits_ok (b : List Int) (i h : Int) (hb : b.length ≤ 1048576) (hi : 0 ≤ i ∧ i ≤ (b.length : Int)) : ∃ r, Ev (fun k => spec_l11Waits.f k b i h) r ∧ r.1.length ≤ 6 ∧ (0 ≤ r.2.1 ∧ r.2.1 ≤ (b.length : Int)) := by
  have key : ∀ (m : Nat), m ≤ 5 → ∀ (xs : List S36) (i h : Int), (0 ≤ i ∧ i ≤ (b.length : Int)) → xs.length + m ≤ 5 → ∃ r, Ev (fun k => spec_l11Waits.l0 k xs (m : Int) b i h) r ∧ r.1.length ≤ 6 ∧ (0 ≤ r.2.1 ∧ r.2.1 ≤ (b.length : Int)) := by
    intro m
    induction m with
    | zero =>
      intro _ xs i h hi hx
      apply ex_succ
      simp only [spec_l11Waits.l0]
      refine ex_ite (fun c => absurd c (by simp)) (fun _ => ?_)
      obtain ⟨z, i1, h1, e1, hi1⟩ := once_ok b i h 14 hb hi (by decide) (by decide)
      refine ex_bind e1 ?_
      refine ex_ite (fun _ => ?_) (fun _ => ex_now ⟨by dsimp only; omega, hi1⟩)
      obtain ⟨x, i2, h2, e2, _, hi2⟩ := below_ok b i1 h1 10 hb hi1 (by decide) (by decide)
      refine ex_bind e2 ?_
      obtain ⟨y, i3, h3, e3, _, hi3⟩ := below_ok b i2 h2 10 hb hi2 (by decide) (by decide)
      refine ex_bind e3 ?_
      exact ex_ite (fun _ => ex_now ⟨by simp; omega, hi3⟩) (fun c => absurd (by omega) c)
    | succ m ih =>
      intro hm xs i h hi hx
      have hw : wrap64 (((m + 1 : Nat) : Int) - 1) = (m : Int) := by unfold wrap64; omega
      apply ex_succ
      simp only [spec_l11Waits.l0]
      rw [hw]
      refine ex_ite (fun _ => ?_) (fun c => absurd (by omega) c)
      obtain ⟨x, i1, h1, e1, _, hi1⟩ := below_ok b i h 5 hb hi (by decide) (by decide)
      refine ex_bind e1 ?_
      obtain ⟨y, i2, h2, e2, _, hi2⟩ := below_ok b i1 h1 5 hb hi1 (by decide) (by decide)
      refine ex_bind e2 ?_
      obtain ⟨r, es, _, hr, _⟩ := both_SetWait2 xs (wrap64 (1 + x)) (wrap64 (1 + y)) (by omega)
      refine ex_bindE es ?_
      exact ih (by omega) _ i2 h2 hi2 (by omega)
  unfold spec_l11Waits.f
  obtain ⟨x, i1, h1, e1, hx, hi1⟩ := below_ok b i h 5 hb hi (by decide) (by decide)
  refine ex_bind e1 ?_
  obtain ⟨m, rfl⟩ := Int.eq_ofNat_of_zero_le hx.1
  exact key m (by omega) [] i1 h1 hi1 (by simp; omega)
theorem setwait_ok (b : List Int) (hb : b.length ≤ 1048576) : ∃ r, Ev (fun k => spec_DrawSetWait.f k b) r ∧ r.1.length ≤ 6 := by
  unfold spec_DrawSetWait.f
  obtain ⟨h0, e0⟩ := new_ok b hb
  refine ex_bindE e0 ?_
  obtain ⟨⟨p, i1, h1⟩, e1, hp, hi1⟩ := waits_ok b 0 h0 hb ⟨Int.le_refl _, by omega⟩
  dsimp only at hp hi1
  refine ex_bindE e1 ?_
  obtain ⟨x, i2, h2, e2, _, hi2⟩ := below_ok b i1 h1 7 hb hi1 (by decide) (by decide)
  refine ex_bind e2 ?_
  obtain ⟨y, i3, h3, e3, _, hi3⟩ := below_ok b i2 h2 7 hb hi2 (by decide) (by decide)
  exact ex_bind e3 (ex_now hp)
theorem ev_same (l : List Int) (hl : l.length ≤ 1048576) : Ev (fun k => laws_sameInts.f k l l) true := by
  have h : Ev (fun k => laws_sameInts.l0 k l l ((0 : Nat) : Int)) true := by
    refine ev_up (σ := Unit) (fun _ i k => laws_sameInts.l0 k l l (i : Int)) l.length (fun _ _ => True) (fun _ _ => true) ?_ ?_ () 0 (Nat.zero_le _) trivial
    · intro _ i hi _ ih
      have h1 : (i : Int) < (l.length : Int) := by omega
      apply Ev.succ
      simp only [laws_sameInts.l0, h1, Int.natCast_nonneg, if_true, wrap_up hi (by omega)]
      exact ih () trivial
    · intro _ _
      apply Ev.succ
      simp only [laws_sameInts.l0, Int.lt_irrefl, if_false]; exact Ev.now _
  unfold laws_sameInts.f
  simp only [if_true]; exact h
theorem FnWaits : laws_FnWaits.Pure := by
  intro b _ _ _
  apply Ev.rounds
  unfold laws_FnWaits.f laws_big.f
  simp only [Option.bind_some]
  by_cases h : (b.length : Int) > 1048576
  · simp only [h, decide_true, if_true]; exact Ev.now _
  have hb : b.length ≤ 1048576 := by omega
  simp only [h, decide_false, Bool.false_eq_true, if_false]
  obtain ⟨⟨l, a, o⟩, e1, hl⟩ := setwait_ok b hb
  dsimp only at hl
  obtain ⟨x, is, r, c, e2, e3, hx, e4, e5, e6, e7, hc, hok⟩ := dead l a o (by omega)
  obtain ⟨v, e8, e9, _⟩ := both_AreWaits2 l (by omega)
  refine Ev.bind e1 (Ev.bind e3 (Ev.bind e2 ?_))
  simp only [bne_self_eq_false, Bool.false_eq_true, if_false, if_true]
  refine Ev.bind e9 (Ev.bind e8 ?_)
  simp only [bne_self_eq_false, Bool.false_eq_true, if_false]
  refine Ev.bind e5 (Ev.bind e4 ?_)
  simp only [bne_self_eq_false]
  apply Ev.succ
  simp only [laws_FnWaits.j0, Bool.false_eq_true, if_false]
  refine Ev.bind e7 (Ev.bind e6 (Ev.bind (ev_same c (by omega)) ?_))
  simp only [if_true]
  have rest : Ev (fun k => laws_FnWaits.j1 k a x x false) true := by
    apply Ev.succ
    simp only [laws_FnWaits.j1, Bool.false_eq_true, if_false]
    obtain ⟨z, f1, f2, hz⟩ := both_ClearWaits x a (by omega)
    refine Ev.bind f2 ?_
    have hzl : z.length ≤ 1048576 := by rw [hz]; exact Nat.le_trans (List.length_filter_le ..) (by omega)
    show Ev (fun k => laws_FnWaits.l0 k a x z ((0 : Nat) : Int)) true
    refine ev_up (σ := Unit) (fun _ i k => laws_FnWaits.l0 k a x z (i : Int)) z.length (fun _ _ => True) (fun _ _ => true) ?_ ?_ () 0 (Nat.zero_le _) trivial
    · intro _ i hi _ ih
      have h1 : (i : Int) < (z.length : Int) := by omega
      have hm := List.getElem_mem hi
      have hrd : rd_T36 z (i : Int) = z[i] := by simp [rd_T36, hi]
      have hn : ¬ (z[i].f0 = a) ∧ ¬ (z[i].f1 = a) := by
        have hp : (!(z[i].f0 == a || z[i].f1 == a)) = true := by
          have h2 : z[i] ∈ x.filter (fun e => !(e.f0 == a || e.f1 == a)) := by rw [← hz]; exact hm
          exact (List.mem_filter.1 h2).2
        simpa using hp
      apply Ev.succ
      simp only [laws_FnWaits.l0, h1, hrd, hn.1, hn.2, Int.natCast_nonneg, if_true, if_false, wrap_up hi (by omega)]
      exact ih () trivial
    · intro _ _
      apply Ev.succ
      simp only [laws_FnWaits.l0, Int.lt_irrefl, if_false]
      refine Ev.bind f1 ?_
      exact Ev.some (by simp)
  cases is
  · simp only [Bool.false_eq_true, if_false]; exact rest
  obtain ⟨⟨t, ht⟩, hr⟩ := hok rfl
  have hc3 : 2 ≤ c.length := by rw [ht]; simp
  have hw : wrap64 ((c.length : Int) - 1) = ((c.length - 1 : Nat) : Int) := wrap_down (by omega) (by omega)
  have k0 : ¬ ((c.length : Int) < 2) := by omega
  have k1 : (0 : Int) < (c.length : Int) := by omega
  have k3 : (1 : Int) < (c.length : Int) := by omega
  have k2 : ((c.length - 1 : Nat) : Int) < (c.length : Int) := by omega
  have r0 : rd c 0 = a := by rw [ht]; rfl
  have r1 : rd c 1 = o := by rw [ht]; rfl
  simp only [k0, k1, k2, k3, r0, r1, if_true, if_false]
  refine Ev.bind e5 ?_
  simp only [hw, k2, Int.natCast_nonneg, if_true, ← hr, bne_self_eq_false]
  exact rest

end Go.Proofs.Ytakpkmlbklahhaa.Pure
