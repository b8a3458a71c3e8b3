/- The plain statement of FnLocks: what is drawn ends; both functions give the same locks; a lock that is granted has its owner, is refused to another, and is free behind the release. Condition: the code's length is at most maxLen. -/
import Derived.Test.YtpiaeinfneoioaaPFnLocksx9
import Derived.Test.YtpiaeinfneoioaaPlainU
namespace Go.Proofs.Ytpiaeinfneoioaa.Pure
open Go.RowKit Go.Proofs.Ytpiaeinfneoioaa.PFnLocks Go.Proofs.YtpiaeinfneoioaaW.PrintWords Go.Proofs.YtpiaeinfneoioaaW.PrintLast Go.Proofs.Ytpiaeinfneoioaa.Plain
set_option linter.unusedVariables false
set_option linter.unusedSimpArgs false


theorem ex_succ {α : Type} {g : Nat → Option α} {P : α → Prop} (h : ∃ r, Ev (fun k => g (k + 1)) r ∧ P r) : ∃ r, Ev g r ∧ P r := by
  obtain ⟨r, a, b⟩ := h
  exact ⟨r, Ev.succ a, b⟩
theorem ex_ite {α : Type} {c : Prop} [Decidable c] {f g : Nat → Option α} {P : α → Prop} (h1 : c → ∃ r, Ev f r ∧ P r) (h2 : ¬ c → ∃ r, Ev g r ∧ P r) : ∃ r, Ev (fun k => if c then f k else g k) r ∧ P r := by
  by_cases h : c
  · simpa only [if_pos h] using h1 h
  · simpa only [if_neg h] using h2 h
theorem ex_now {α : Type} {x : α} {P : α → Prop} (h : P x) : ∃ r, Ev (fun _ => some x) r ∧ P r := ⟨x, Ev.now _, h⟩
theorem ex_bind {α β : Type} {x : Option α} {a : α} (e : x = some a) {g : Nat → α → Option β} {P : β → Prop} (h : ∃ r, Ev (fun k => g k a) r ∧ P r) : ∃ r, Ev (fun k => x.bind (g k)) r ∧ P r := by
  subst e; exact h
theorem ex_bindE {α β : Type} {f : Nat → Option α} {a : α} (e : Ev f a) {g : Nat → α → Option β} {P : β → Prop} (h : ∃ r, Ev (fun k => g k a) r ∧ P r) : ∃ r, Ev (fun k => (f k).bind (g k)) r ∧ P r := by
  obtain ⟨r, h1, h2⟩ := h
  exact ⟨r, Ev.bind e h1, h2⟩
theorem and255 (x : Int) : 0 ≤ Go.bits .and .i64 x 255 ∧ Go.bits .and .i64 x 255 ≤ 255 := by
  have h : Go.bits .and .i64 x 255 = IntKind.i64.wrap (((BitVec.ofInt 64 x &&& BitVec.ofInt 64 255).toNat : Nat) : Int) := rfl
  rw [h, BitVec.toNat_and, show (BitVec.ofInt 64 255).toNat = 255 from by decide]
  have h3 : (BitVec.ofInt 64 x).toNat &&& 255 ≤ 255 := Nat.and_le_right
  rw [IntKind.wrap_i64]; omega
theorem byte_ok (b : List Int) (i h : Int) (hb : b.length ≤ 1048576) (hi : 0 ≤ i ∧ i ≤ (b.length : Int)) : ∃ x i' h', spec_l1Byte.f b i h = some (x, i', h') ∧ (0 ≤ x ∧ x ≤ 255) ∧ (0 ≤ i' ∧ i' ≤ (b.length : Int)) := by
  unfold spec_l1Byte.f
  by_cases c : i < (b.length : Int)
  · have hw : wrap64 (i + 1) = i + 1 := wrap_in (by omega) (by omega)
    rw [if_pos c, if_pos hi.1, hw]
    exact ⟨_, _, _, rfl, and255 _, by omega, by omega⟩
  · rw [if_neg c]
    exact ⟨_, _, _, rfl, and255 _, hi⟩
theorem below_ok (b : List Int) (i h n : Int) (hb : b.length ≤ 1048576) (hi : 0 ≤ i ∧ i ≤ (b.length : Int)) (hn : 1 ≤ n) (hn' : n ≤ 256) : ∃ x i' h', spec_l1Below.f b i h n = some (x, i', h') ∧ (0 ≤ x ∧ x < n) ∧ (0 ≤ i' ∧ i' ≤ (b.length : Int)) := by
  obtain ⟨x, i', h', e, hx, hi'⟩ := byte_ok b i h hb hi
  have c0 : ¬ n ≤ 0 := by omega
  have c2 : ¬ n = 0 := by omega
  refine ⟨Int.tmod x n, i', h', ?_, ⟨Int.tmod_nonneg n hx.1, Int.tmod_lt_of_pos x (by omega)⟩, hi'⟩
  unfold spec_l1Below.f
  rw [if_neg c0, if_pos hn', e]
  show (if n = 0 then none else some (Int.tmod x n, i', h')) = _
  rw [if_neg c2]
theorem once_ok (b : List Int) (i h n : Int) (hb : b.length ≤ 1048576) (hi : 0 ≤ i ∧ i ≤ (b.length : Int)) (hn : 1 ≤ n) (hn' : n ≤ 256) : ∃ x i' h', spec_l1Once.f b i h n = some (x, i', h') ∧ (0 ≤ i' ∧ i' ≤ (b.length : Int)) := by
  obtain ⟨x, i', h', e, hx, hi'⟩ := below_ok b i h n hb hi hn hn'
  refine ⟨x == 0, i', h', ?_, hi'⟩
  unfold spec_l1Once.f
  rw [e]; rfl
theorem pick_ok (b : List Int) (i h : Int) (l : List Int) (hb : b.length ≤ 1048576) (hi : 0 ≤ i ∧ i ≤ (b.length : Int)) (hn : 1 ≤ (l.length : Int)) (hn' : (l.length : Int) ≤ 256) : ∃ x i' h', spec_l1PickInt.f b i h l = some (x, i', h') ∧ (0 ≤ i' ∧ i' ≤ (b.length : Int)) := by
  obtain ⟨x, i', h', e, hx, hi'⟩ := below_ok b i h (l.length : Int) hb hi hn hn'
  refine ⟨rd l x, i', h', ?_, hi'⟩
  unfold spec_l1PickInt.f
  rw [e]
  show (if 0 ≤ x then (if x < (l.length : Int) then some (rd l x, i', h') else none) else none) = _
  rw [if_pos hx.1, if_pos hx.2]
theorem new_ok (b : List Int) (hb : b.length ≤ 1048576) : ∃ h, Ev (fun k => spec_l1New.f k b) (b, 0, h) := by
  have key : ∃ r, Ev (fun k => spec_l1New.l0 k b (wrap64 (10101 + (b.length : Int))) ((0 : Nat) : Int)) r ∧ ∃ h, r = (b, 0, h) := by
    refine ev_to (σ := Int) (fun s i k => spec_l1New.l0 k b s (i : Int)) b.length (fun _ _ => True) (fun r => ∃ h, r = (b, 0, h)) ?_ ?_ (wrap64 (10101 + (b.length : Int))) 0 (Nat.zero_le _) trivial
    · intro s i hi _ ih
      have h1 : (i : Int) < (b.length : Int) := by omega
      apply ex_succ
      simp only [spec_l1New.l0]
      rw [wrap_up hi (by omega)]
      exact ex_ite (fun _ => ex_ite (fun _ => ex_ite (fun _ => ih _ trivial) (fun c => absurd (Int.natCast_nonneg i) c)) (fun _ => ex_now ⟨_, rfl⟩)) (fun _ => ex_now ⟨_, rfl⟩)
    · intro s _
      apply ex_succ
      simp only [spec_l1New.l0]
      exact ex_ite (fun c => absurd c (Int.lt_irrefl _)) (fun _ => ex_now ⟨_, rfl⟩)
  obtain ⟨r, h, x, rfl⟩ := key
  exact ⟨x, h⟩
theorem both_AreLocks2 (l : List S91) (hl : l.length ≤ 1048576) : ∃ r, Ev (fun k => spec_AreLocks.f k l) r ∧ Ev (fun k => impl_AreLocks.f k l) r ∧ (r = true → ∀ j : Nat, j < l.length → (0 ≤ (rd_T91 l (j : Int)).f0 ∧ (rd_T91 l (j : Int)).f0 ≤ 5) ∧ (1 ≤ (rd_T91 l (j : Int)).f1 ∧ (rd_T91 l (j : Int)).f1 ≤ 9) ∧ (0 < j → (rd_T91 l ((j - 1 : Nat) : Int)).f0 < (rd_T91 l (j : Int)).f0)) := by
  let Q : Nat → Prop := fun j => (0 ≤ (rd_T91 l (j : Int)).f0 ∧ (rd_T91 l (j : Int)).f0 ≤ 5) ∧ (1 ≤ (rd_T91 l (j : Int)).f1 ∧ (rd_T91 l (j : Int)).f1 ≤ 9) ∧ (0 < j → (rd_T91 l ((j - 1 : Nat) : Int)).f0 < (rd_T91 l (j : Int)).f0)
  refine ev_both (σ := Unit) (τ := Unit) (fun _ i k => spec_AreLocks.l0 k l (i : Int)) (fun _ i k => impl_AreLocks.l0 k l l (l.length : Int) (i : Int)) l.length (fun _ _ i => ∀ j, j < i → Q j) (fun r => r = true → ∀ j, j < l.length → Q j) ?_ ?_ () () 0 (Nat.zero_le _) (fun j hj => absurd hj (by omega))
  · intro _ _ i hi hI ih
    have h1 : (i : Int) < (l.length : Int) := by omega
    have e0 := wrap_up hi (by omega)
    by_cases c0 : 0 ≤ (rd_T91 l i).f0 <;> by_cases c1 : (rd_T91 l i).f0 ≤ 5 <;> by_cases c2 : 1 ≤ (rd_T91 l i).f1 <;> by_cases c3 : (rd_T91 l i).f1 ≤ 9
    all_goals try (refine ⟨false, Ev.succ ?_, Ev.succ ?_, fun h => nomatch h⟩ <;> (simp [spec_AreLocks.l0, impl_AreLocks.l0, spec_l1In.f, impl_isKey.f, impl_isID.f, impl_in.f, h1, c0, c1, c2, c3]; first | done | exact Ev.now _))
    by_cases c5 : 0 < i
    · have e1 : wrap64 ((i : Int) - 1) = ((i - 1 : Nat) : Int) := wrap_down c5 (by omega)
      have h2 : ((i - 1 : Nat) : Int) < (l.length : Int) := by omega
      have h3 : (i : Int) > 0 := by omega
      by_cases c6 : (rd_T91 l ((i - 1 : Nat) : Int)).f0 ≥ (rd_T91 l i).f0
      · refine ⟨false, Ev.succ ?_, Ev.succ ?_, fun h => nomatch h⟩ <;> (simp only [spec_AreLocks.l0, impl_AreLocks.l0, spec_l1In.f, impl_isKey.f, impl_isID.f, impl_in.f, h1, h2, h3, c0, c1, c2, c3, c6, e1, Int.natCast_nonneg, ge_iff_le, decide_true, if_true, if_false, Option.bind_some]; exact Ev.now _)
      · obtain ⟨r, hs, ht, hR⟩ := ih () () (fun j hj => if hh : j < i then hI j hh else by obtain rfl : j = i := by omega
                                                                                           exact ⟨⟨c0, c1⟩, ⟨c2, c3⟩, fun _ => by omega⟩)
        refine ⟨r, Ev.succ ?_, Ev.succ ?_, hR⟩ <;> (simp only [spec_AreLocks.l0, impl_AreLocks.l0, spec_l1In.f, impl_isKey.f, impl_isID.f, impl_in.f, h1, h2, h3, c0, c1, c2, c3, c6, e1, e0, Int.natCast_nonneg, ge_iff_le, decide_true, if_true, if_false, Option.bind_some]; assumption)
    · have h3 : ¬ ((i : Int) > 0) := by omega
      obtain ⟨r, hs, ht, hR⟩ := ih () () (fun j hj => if hh : j < i then hI j hh else by obtain rfl : j = i := by omega
                                                                                         exact ⟨⟨c0, c1⟩, ⟨c2, c3⟩, fun h => absurd h c5⟩)
      refine ⟨r, Ev.succ ?_, Ev.succ ?_, hR⟩ <;> (simp only [spec_AreLocks.l0, impl_AreLocks.l0, spec_l1In.f, impl_isKey.f, impl_isID.f, impl_in.f, h1, h3, c0, c1, c2, c3, e0, Int.natCast_nonneg, ge_iff_le, decide_true, if_true, if_false, Option.bind_some]; assumption)
  · intro _ _ hI
    refine ⟨true, Ev.succ ?_, Ev.succ ?_, fun _ => hI⟩ <;> (simp [spec_AreLocks.l0, impl_AreLocks.l0]; exact Ev.now _)
theorem asc_Lock (l : List S91) (h : ∀ j : Nat, j < l.length → 0 < j → (rd_T91 l ((j - 1 : Nat) : Int)).f0 < (rd_T91 l (j : Int)).f0) : ∀ d i : Nat, i + d < l.length → (rd_T91 l (i : Int)).f0 ≤ (rd_T91 l ((i + d : Nat) : Int)).f0 := by
  intro d
  induction d with
  | zero => intro i _; exact Int.le_refl _
  | succ d ih =>
    intro i hi
    have h1 := ih i (by omega)
    have h2 := h (i + (d + 1)) hi (by omega)
    rw [show i + (d + 1) - 1 = i + d by omega] at h2
    exact Int.le_trans h1 (Int.le_of_lt h2)
/-- where a key has its place in a list that ascends -/
theorem place_Lock (l : List S91) (a : Int) (h : ∀ j : Nat, j < l.length → 0 < j → (rd_T91 l ((j - 1 : Nat) : Int)).f0 < (rd_T91 l (j : Int)).f0) : ∃ p : Nat, p ≤ l.length ∧ (∀ j : Nat, j < p → (rd_T91 l (j : Int)).f0 < a) ∧ (∀ j : Nat, p ≤ j → j < l.length → a ≤ (rd_T91 l (j : Int)).f0) := by
  have key : ∀ d i : Nat, l.length - i = d → i ≤ l.length → (∀ j : Nat, j < i → (rd_T91 l (j : Int)).f0 < a) → ∃ p : Nat, p ≤ l.length ∧ (∀ j : Nat, j < p → (rd_T91 l (j : Int)).f0 < a) ∧ (∀ j : Nat, p ≤ j → j < l.length → a ≤ (rd_T91 l (j : Int)).f0) := by
    intro d
    induction d with
    | zero => intro i hd hi hI; exact ⟨i, hi, hI, fun j h1 h2 => absurd h2 (by omega)⟩
    | succ d ih =>
      intro i hd hi hI
      by_cases c : (rd_T91 l (i : Int)).f0 < a
      · exact ih (i + 1) (by omega) (by omega) (fun j hj => if hh : j < i then hI j hh else by obtain rfl : j = i := (by omega); exact c)
      · refine ⟨i, hi, hI, fun j h1 h2 => ?_⟩
        have := asc_Lock l h (j - i) i (by omega)
        rw [show i + (j - i) = j by omega] at this
        omega
  exact key _ 0 rfl (Nat.zero_le _) (fun j hj => absurd hj (by omega))
theorem mid_Lock (i j : Nat) (h : i + j ≤ 4194304) : wrap64 ((IntKind.u64.wrap (wrap64 ((i : Int) + (j : Int)))) / 2) = (((i + j) / 2 : Nat) : Int) := by
  have h1 : wrap64 ((i : Int) + (j : Int)) = ((i + j : Nat) : Int) := by unfold wrap64; omega
  rw [h1]
  have h2 : IntKind.u64.wrap ((i + j : Nat) : Int) = ((i + j : Nat) : Int) := by simp [IntKind.wrap, IntKind.signed, IntKind.bits]; omega
  rw [h2]
  unfold wrap64; omega
theorem search_Lock (l : List S91) (a : Int) (hl : l.length ≤ 1048576) (p : Nat) (hp : p ≤ l.length) (h1 : ∀ j : Nat, j < p → (rd_T91 l (j : Int)).f0 < a) (h2 : ∀ j : Nat, p ≤ j → j < l.length → a ≤ (rd_T91 l (j : Int)).f0) : Ev (fun k => impl_Lock_int.f k l a) ((p : Int), decide (p < l.length ∧ (rd_T91 l (p : Int)).f0 = a)) := by
  have hcmp : ∀ x y : Int, impl_AcquireLock_1.f x y a = some (if x < a then -1 else if x > a then 1 else 0) := by
    intro x y
    by_cases c : x < a <;> by_cases d : x > a <;> simp [impl_AcquireLock_1.f, cmp_Compare_int.f, cmp_isNaN_int.f, c, d]
  have key : ∀ d i j : Nat, j - i ≤ d → i ≤ p → p ≤ j → j ≤ l.length → Ev (fun k => impl_Lock_int.l0 k l a (l.length : Int) (i : Int) (j : Int)) ((p : Int), decide (p < l.length ∧ (rd_T91 l (p : Int)).f0 = a)) := by
    intro d
    induction d with
    | zero =>
      intro i j hd hi hj hn
      obtain rfl : i = p := by omega
      obtain rfl : i = j := by omega
      apply Ev.succ
      simp only [impl_Lock_int.l0, Int.lt_irrefl, if_false]
      by_cases c : i < l.length
      · have c1 : (i : Int) < (l.length : Int) := by omega
        simp only [c1, Int.natCast_nonneg, if_true, hcmp, Option.bind_some]
        refine Ev.some ?_
        have g := h2 i (Nat.le_refl _) c
        by_cases e : (rd_T91 l (i : Int)).f0 = a
        · simp [e, c]
        · have e1 : ¬ (rd_T91 l (i : Int)).f0 < a := by omega
          have e2 : (rd_T91 l (i : Int)).f0 > a := by omega
          simp [e, e1, e2]
      · have c1 : ¬ (i : Int) < (l.length : Int) := by omega
        simp only [c1, if_false]
        exact Ev.some (by simp [c])
    | succ d ih =>
      intro i j hd hi hj hn
      by_cases hij : i < j
      · have c0 : (i : Int) < (j : Int) := by omega
        have c1 : ((((i + j) / 2 : Nat) : Int)) < (l.length : Int) := by omega
        have c2 : (i + j) / 2 < l.length := by omega
        apply Ev.succ
        simp only [impl_Lock_int.l0, c0, mid_Lock i j (by omega), c1, Int.natCast_nonneg, if_true, hcmp, Option.bind_some]
        by_cases e : (rd_T91 l (((i + j) / 2 : Nat) : Int)).f0 < a
        · have e0 : wrap64 ((((i + j) / 2 : Nat) : Int) + 1) = (((i + j) / 2 + 1 : Nat) : Int) := wrap_up c2 (by omega)
          simp only [e, if_true, e0, show ((-1 : Int) < 0) by decide]
          refine ih _ _ (by omega) ?_ hj hn
          by_cases q : (i + j) / 2 < p
          · omega
          · exact absurd (h2 _ (by omega) c2) (by omega)
        · have e1 : ¬ ((if (rd_T91 l (((i + j) / 2 : Nat) : Int)).f0 > a then (1 : Int) else 0) < 0) := by split <;> omega
          simp only [e, e1, if_false]
          refine ih _ _ (by omega) hi ?_ (by omega)
          by_cases q : p ≤ (i + j) / 2
          · exact q
          · exact absurd (h1 _ (by omega)) e
      · exact ih i j (by omega) hi hj hn
  exact key _ 0 l.length (Nat.le_refl _) (Nat.zero_le _) hp (Nat.le_refl _)
theorem both_LockOwner (l : List S91) (a : Int) (hl : l.length ≤ 1048576) : ∃ r, Ev (fun k => spec_LockOwner.f k l a) r ∧ Ev (fun k => impl_LockOwner.f k l a) r ∧ True := by
  have h : ∃ r q, Ev (fun k => spec_LockOwner.l0 k l a ((0 : Nat) : Int)) r ∧ Ev (fun k => impl_Lock_141.l0 k l (l.length : Int) ((0 : Nat) : Int) a) q ∧ ((q < 0 ∧ r = 0) ∨ (0 ≤ q ∧ q < (l.length : Int) ∧ r = (rd_T91 l q).f1)) := by
    refine ev_two (σ := Unit) (τ := Unit) (fun _ i k => spec_LockOwner.l0 k l a (i : Int)) (fun _ i k => impl_Lock_141.l0 k l (l.length : Int) (i : Int) a) l.length (fun _ _ _ => True) (fun r q => ((q < 0 ∧ r = 0) ∨ (0 ≤ q ∧ q < (l.length : Int) ∧ r = (rd_T91 l q).f1))) ?_ ?_ () () 0 (Nat.zero_le _) trivial
    · intro _ _ i hi _ ih
      have h1 : (i : Int) < (l.length : Int) := by omega
      have e0 := wrap_up hi (by omega)
      by_cases c : (rd_T91 l i).f0 = a
      · refine ⟨(rd_T91 l i).f1, (i : Int), Ev.succ ?_, Ev.succ ?_, .inr ⟨by omega, h1, rfl⟩⟩ <;> (simp only [spec_LockOwner.l0, impl_Lock_141.l0, impl_LockOwner_1.f, h1, c, beq_self_eq_true, Int.natCast_nonneg, if_true, Option.bind_some]; exact Ev.now _)
      · obtain ⟨r, q, hs, ht, hR⟩ := ih () () trivial
        have cb : ((rd_T91 l i).f0 == a) = false := by simpa using c
        refine ⟨r, q, Ev.succ ?_, Ev.succ ?_, hR⟩ <;> (simp only [spec_LockOwner.l0, impl_Lock_141.l0, impl_LockOwner_1.f, h1, c, cb, e0, Int.natCast_nonneg, if_true, if_false, Option.bind_some, Bool.false_eq_true]; assumption)
    · intro _ _ _
      refine ⟨0, -1, Ev.succ ?_, Ev.succ ?_, .inl ⟨by omega, rfl⟩⟩ <;> (simp only [spec_LockOwner.l0, impl_Lock_141.l0, Int.lt_irrefl, if_false]; exact Ev.now _)
  obtain ⟨r, q, h1, h2, hR⟩ := h
  refine ⟨r, h1, ?_, trivial⟩
  unfold impl_LockOwner.f impl_Lock_141.f
  refine Ev.bind h2 ?_
  rcases hR with ⟨hq, rfl⟩ | ⟨h0, hn, rfl⟩
  · simp only [hq, if_true]; exact Ev.now _
  · have : ¬ q < 0 := by omega
    simp only [this, h0, hn, if_false, if_true]; exact Ev.now _
def GoodL (l : List S91) : Prop := ∀ j : Nat, j < l.length → (0 ≤ (rd_T91 l (j : Int)).f0 ∧ (rd_T91 l (j : Int)).f0 ≤ 5) ∧ (1 ≤ (rd_T91 l (j : Int)).f1 ∧ (rd_T91 l (j : Int)).f1 ≤ 9) ∧ (0 < j → (rd_T91 l ((j - 1 : Nat) : Int)).f0 < (rd_T91 l (j : Int)).f0)
def okL (e : S91) : Prop := (0 ≤ e.f0 ∧ e.f0 ≤ 5) ∧ (1 ≤ e.f1 ∧ e.f1 ≤ 9)
theorem rdL (l : List S91) (j : Nat) (hj : j < l.length) : rd_T91 l (j : Int) = l[j] := by simp [rd_T91, hj]
theorem good_ok {l : List S91} (h : GoodL l) : (∀ e ∈ l, okL e) ∧ l.Pairwise (fun x y => x.f0 < y.f0) := by
  refine ⟨fun e he => ?_, ?_⟩
  · obtain ⟨j, hj, rfl⟩ := List.getElem_of_mem he
    have g := h j hj
    rw [rdL l j hj] at g
    exact ⟨g.1, g.2.1⟩
  · rw [List.pairwise_iff_getElem]
    intro i j hi hj hij
    have g0 := asc_Lock l (fun j hj h0 => (h j hj).2.2 h0) (j - 1 - i) i (by omega)
    have g1 := (h j hj).2.2 (by omega)
    rw [show i + (j - 1 - i) = j - 1 by omega] at g0
    rw [rdL l i hi] at g0
    rw [rdL l j hj] at g1
    omega
theorem ok_good {l : List S91} (h : ∀ e ∈ l, okL e) (hp : l.Pairwise (fun x y => x.f0 < y.f0)) : GoodL l := by
  intro j hj
  have g := h _ (List.getElem_mem hj)
  rw [rdL l j hj]
  refine ⟨g.1, g.2, fun h0 => ?_⟩
  rw [rdL l (j - 1) (by omega)]
  rw [List.pairwise_iff_getElem] at hp
  exact hp (j - 1) j (by omega) hj (by omega)
theorem locks_set (l : List S91) (a b : Int) (p : Nat) (hp : p ≤ l.length) (ha : 0 ≤ a ∧ a ≤ 5) (hb : 1 ≤ b ∧ b ≤ 9)
    (h1 : ∀ j : Nat, j < p → (rd_T91 l (j : Int)).f0 < a) (h2 : ∀ j : Nat, p ≤ j → j < l.length → a < (rd_T91 l (j : Int)).f0) (h : GoodL l) : GoodL (l.take p ++ [(⟨a, b⟩ : S91)] ++ l.drop p) := by
  obtain ⟨hall, hpw⟩ := good_ok h
  refine ok_good ?_ ?_
  · intro e he
    simp only [List.mem_append, List.mem_singleton] at he
    rcases he with (he | rfl) | he
    · exact hall e (List.mem_of_mem_take he)
    · exact ⟨ha, hb⟩
    · exact hall e (List.mem_of_mem_drop he)
  · have hlo : ∀ e ∈ l.take p, e.f0 < a := by
      intro e he
      obtain ⟨j, hj, rfl⟩ := List.getElem_of_mem he
      rw [List.length_take] at hj
      have g := h1 j (by omega)
      rw [rdL l j (by omega)] at g
      rw [List.getElem_take]; exact g
    have hhi : ∀ e ∈ l.drop p, a < e.f0 := by
      intro e he
      obtain ⟨j, hj, rfl⟩ := List.getElem_of_mem he
      rw [List.length_drop] at hj
      have g := h2 (p + j) (by omega) (by omega)
      rw [rdL l (p + j) (by omega)] at g
      rw [List.getElem_drop]; exact g
    rw [List.pairwise_append, List.pairwise_append]
    refine ⟨⟨hpw.sublist (List.take_sublist _ _), List.pairwise_singleton _ _, ?_⟩, hpw.sublist (List.drop_sublist _ _), ?_⟩
    · intro x hx y hy
      rw [List.mem_singleton] at hy
      subst hy; exact hlo x hx
    · intro x hx y hy
      have gy := hhi y hy
      rw [List.mem_append, List.mem_singleton] at hx
      rcases hx with hx | rfl
      · have := hlo x hx; omega
      · exact gy
theorem end_AcquireLock (l : List S91) (a b : Int) (p : Nat) (hl : l.length ≤ 1048576) (hp : p ≤ l.length) (h2 : ∀ j : Nat, p ≤ j → j < l.length → a ≤ (rd_T91 l (j : Int)).f0) (k : Nat) : spec_AcquireLock.l0 (k + 1) a b l (p : Int) = some (l.take p ++ [(⟨a, b⟩ : S91)] ++ l.drop p, true) := by
  have hl3 : (l.take p ++ [(⟨a, b⟩ : S91)]).length + (l.drop p).length < 8796093022208 := by rw [List.length_append, List.length_take, List.length_drop, List.length_singleton]; omega
  have hl4 : (l.take p).length + [(⟨a, b⟩ : S91)].length < 8796093022208 := by rw [List.length_take, List.length_singleton]; omega
  have hl1 : ([] : List S91).length + (l.take p).length < 8796093022208 := by rw [List.length_take]; simp; omega
  have hpl : (p : Int) ≤ (l.length : Int) := by omega
  by_cases c0 : p < l.length
  · have g1 : (p : Int) < (l.length : Int) := by omega
    have g2 : ¬ (rd_T91 l (p : Int)).f0 < a := by have := h2 p (Nat.le_refl _) c0; omega
    rw [spec_AcquireLock.l0, if_pos g1, if_pos (Int.natCast_nonneg p), if_neg g2, Option.bind_some, if_pos hpl, Option.bind_some, Int.toNat_natCast, if_pos hl1, Option.bind_some, Option.bind_some, List.nil_append, if_pos hl4, Option.bind_some, Option.bind_some, if_pos hl3]
  · have g1 : ¬ (p : Int) < (l.length : Int) := by omega
    rw [spec_AcquireLock.l0, if_neg g1, Option.bind_some, if_pos (Int.natCast_nonneg p), if_pos hpl, Option.bind_some, Int.toNat_natCast, if_pos hl1, Option.bind_some, Option.bind_some, List.nil_append, if_pos hl4, Option.bind_some, Option.bind_some, if_pos hl3]
theorem owner_none (l : List S91) (a : Int) (hl : l.length ≤ 1048576) (h : ∀ j : Nat, j < l.length → (rd_T91 l (j : Int)).f0 ≠ a) : Ev (fun k => spec_LockOwner.f k l a) 0 := by
  refine ev_up (σ := Unit) (fun _ i k => spec_LockOwner.l0 k l a (i : Int)) l.length (fun _ _ => True) (fun _ _ => (0 : Int)) ?_ ?_ () 0 (Nat.zero_le _) trivial
  · intro _ i hi _ ih
    have g1 : (i : Int) < (l.length : Int) := by omega
    apply Ev.succ
    simp only [spec_LockOwner.l0, g1, h i hi, wrap_up hi (by omega), Int.natCast_nonneg, if_true, if_false]
    exact ih () trivial
  · intro _ _
    apply Ev.succ
    simp only [spec_LockOwner.l0, Int.lt_irrefl, if_false]; exact Ev.now _
theorem owner_at (l : List S91) (a : Int) (hl : l.length ≤ 1048576) (p : Nat) (hp : p < l.length) (h : ∀ j : Nat, j < p → (rd_T91 l (j : Int)).f0 < a) (e : (rd_T91 l (p : Int)).f0 = a) : Ev (fun k => spec_LockOwner.f k l a) (rd_T91 l (p : Int)).f1 := by
  refine ev_up (σ := Unit) (fun _ i k => spec_LockOwner.l0 k l a (i : Int)) p (fun _ _ => True) (fun _ _ => (rd_T91 l (p : Int)).f1) ?_ ?_ () 0 (Nat.zero_le _) trivial
  · intro _ i hi _ ih
    have g1 : (i : Int) < (l.length : Int) := by omega
    have g2 : ¬ (rd_T91 l (i : Int)).f0 = a := by have := h i hi; omega
    apply Ev.succ
    simp only [spec_LockOwner.l0, g1, g2, wrap_up (show i < l.length by omega) (by omega), Int.natCast_nonneg, if_true, if_false]
    exact ih () trivial
  · intro _ _
    have g1 : (p : Int) < (l.length : Int) := by omega
    apply Ev.succ
    simp only [spec_LockOwner.l0, g1, e, Int.natCast_nonneg, if_true]; exact Ev.now _
theorem both_AcquireLock2 (l : List S91) (a b : Int) (hl : l.length ≤ 1048576) : ∃ r, Ev (fun k => spec_AcquireLock.f k l a b) r ∧ Ev (fun k => impl_AcquireLock.f k l a b) r ∧ (r.2 = false → r.1 = l) ∧ (r.2 = true → (0 ≤ a ∧ a ≤ 5) ∧ (1 ≤ b ∧ b ≤ 9) ∧ GoodL r.1 ∧ (⟨a, b⟩ : S91) ∈ r.1 ∧ r.1.length ≤ l.length + 1) := by
  obtain ⟨ok, eS, eI, hI⟩ := both_AreLocks2 l hl
  obtain ⟨own, eO, -⟩ : ∃ r, Ev (fun k => spec_LockOwner.f k l a) r ∧ True := by
    refine ev_to (σ := Unit) (fun _ i k => spec_LockOwner.l0 k l a (i : Int)) l.length (fun _ _ => True) (fun _ => True) ?_ ?_ () 0 (Nat.zero_le _) trivial
    · intro _ i hi _ ih
      have g1 : (i : Int) < (l.length : Int) := by omega
      by_cases c : (rd_T91 l (i : Int)).f0 = a
      · exact ⟨_, Ev.succ (by simp only [spec_LockOwner.l0, g1, c, Int.natCast_nonneg, if_true]; exact Ev.now _), trivial⟩
      · obtain ⟨r, h, _⟩ := ih () trivial
        exact ⟨r, Ev.succ (by simp only [spec_LockOwner.l0, g1, c, wrap_up hi (by omega), Int.natCast_nonneg, if_true, if_false]; exact h), trivial⟩
    · intro _ _
      exact ⟨0, Ev.succ (by simp only [spec_LockOwner.l0, Int.lt_irrefl, if_false]; exact Ev.now _), trivial⟩
  have hcap : ([] : List S91).length + l.length < 8796093022208 := by simp; omega
  have hclone : impl_Lock_130.f l = some l := by simp only [impl_Lock_130.f, Option.bind_some, hcap, if_true, List.nil_append]
  have hcopy : spec_l10Copy.f l = some l := by simp only [spec_l10Copy.f, Option.bind_some, hcap, if_true, List.nil_append]
  have sT : ∀ n : Int, Ev (fun k => spec_AcquireLock.j0 k a b l n true) (l, false) := fun n => Ev.succ (by simp only [spec_AcquireLock.j0, if_true]; exact Ev.now _)
  have iT : Ev (fun k => impl_AcquireLock.j0 k l a b l true) (l, false) := Ev.succ (by simp only [impl_AcquireLock.j0, if_true]; exact Ev.now _)
  have hg : ∀ x : Int, spec_l1In.f x 1 9 = some (decide (1 ≤ x) && decide (x ≤ 9)) := by intro x; by_cases c : 1 ≤ x <;> simp [spec_l1In.f, c]
  have hg' : ∀ x : Int, impl_isID.f x = some (decide (1 ≤ x) && decide (x ≤ 9)) := by intro x; by_cases c : 1 ≤ x <;> simp [impl_isID.f, impl_in.f, c]
  have hk0 : ∀ x : Int, spec_l1In.f x 0 5 = some (decide (0 ≤ x) && decide (x ≤ 5)) := by intro x; by_cases c : 0 ≤ x <;> simp [spec_l1In.f, c]
  have hk1 : ∀ x : Int, impl_isKey.f x = some (decide (0 ≤ x) && decide (x ≤ 5)) := by intro x; by_cases c : 0 ≤ x <;> simp [impl_isKey.f, impl_in.f, c]
  unfold spec_AcquireLock.f impl_AcquireLock.f
  simp only [hclone, hcopy, hg, hg', hk0, hk1, Option.bind_some]
  by_cases hk : ok = true
  rotate_left 1
  · refine ⟨(l, false), Ev.bind eO (Ev.bind eS ?_), Ev.bind eI ?_, fun _ => rfl, (fun h => nomatch h)⟩
    · simp only [hk, if_false]; exact sT _
    · simp only [hk, if_false]; exact iT
  subst hk
  have hI := hI rfl
  cases ca : (decide (0 ≤ a) && decide (a ≤ 5))
  · refine ⟨(l, false), Ev.bind eO (Ev.bind eS ?_), Ev.bind eI ?_, fun _ => rfl, (fun h => nomatch h)⟩
    · simp only [if_true, Bool.false_eq_true, if_false]; exact sT _
    · simp only [if_true, Bool.false_eq_true, if_false]; exact iT
  cases cb : (decide (1 ≤ b) && decide (b ≤ 9))
  · refine ⟨(l, false), Ev.bind eO (Ev.bind eS ?_), Ev.bind eI ?_, fun _ => rfl, (fun h => nomatch h)⟩
    · simp only [if_true, Bool.false_eq_true, if_false]; exact sT _
    · simp only [if_true, Bool.not_false]; exact iT
  have hb : 1 ≤ b := by simp only [Bool.and_eq_true, decide_eq_true_eq] at cb; exact cb.1
  have ca' : 0 ≤ a ∧ a ≤ 5 := by simpa only [Bool.and_eq_true, decide_eq_true_eq] using ca
  have cb' : 1 ≤ b ∧ b ≤ 9 := by simpa only [Bool.and_eq_true, decide_eq_true_eq] using cb
  obtain ⟨p, hp, h1, h2⟩ := place_Lock l a (fun j hj h0 => (hI j hj).2.2 h0)
  have eb := search_Lock l a hl p hp h1 h2
  have hpl : (p : Int) ≤ (l.length : Int) := by omega
  by_cases c : p < l.length ∧ (rd_T91 l (p : Int)).f0 = a
  · obtain ⟨c0, c1⟩ := c
    have eO := owner_at l a hl p c0 h1 c1
    have hn := (hI p c0).2.1
    have hn0 : ¬ (rd_T91 l (p : Int)).f1 = 0 := by omega
    have g1 : (p : Int) < (l.length : Int) := by omega
    refine ⟨(l, (rd_T91 l (p : Int)).f1 == b), Ev.bind eO (Ev.bind eS ?_), Ev.bind eI ?_, fun _ => rfl, fun h => ⟨ca', cb', hI, ?_, Nat.le_succ _⟩⟩
    · simp only [if_true, hn0, if_false]
      by_cases e : (rd_T91 l (p : Int)).f1 = b
      · have e2 : ((rd_T91 l (p : Int)).f1 != b) = false := by simp [e]
        have e3 : ((rd_T91 l (p : Int)).f1 == b) = true := by simp [e]
        rw [e2, e3]
        apply Ev.succ
        simp only [spec_AcquireLock.j0, e, Bool.false_eq_true, if_false, if_true]; exact Ev.now _
      · have e2 : ((rd_T91 l (p : Int)).f1 != b) = true := by simp [e]
        have e3 : ((rd_T91 l (p : Int)).f1 == b) = false := by simp [e]
        rw [e2, e3]
        exact sT _
    · simp only [if_true, Bool.not_true]
      apply Ev.succ
      simp only [impl_AcquireLock.j0, Bool.false_eq_true, if_false]
      refine Ev.bind eb ?_
      simp only [c0, c1, g1, and_self, decide_true, Int.natCast_nonneg, if_true]
      exact Ev.now _
    · have hb' : (rd_T91 l (p : Int)).f1 = b := by simpa using h
      rw [rdL l p c0] at hb' c1
      rw [← c1, ← hb']; exact List.getElem_mem c0
  · have eO := owner_none l a hl (by
      intro j hj e
      by_cases q : j < p
      · have := h1 j q; omega
      · by_cases q2 : j = p
        · subst q2; exact c ⟨hj, e⟩
        · have g0 := h2 (j - 1) (by omega) (by omega)
          have g1 := (hI j hj).2.2 (by omega)
          omega)
    have hb0 : ¬ (0 : Int) = b := by omega
    refine ⟨(l.take p ++ [(⟨a, b⟩ : S91)] ++ l.drop p, true), Ev.bind eO (Ev.bind eS ?_), Ev.bind eI ?_, (fun h => nomatch h), fun _ => ⟨ca', cb', ?_, by simp, ?_⟩⟩
    · simp only [if_true]
      apply Ev.succ
      simp only [spec_AcquireLock.j0, hb0, Bool.false_eq_true, if_false]
      show Ev (fun k => spec_AcquireLock.l0 k a b l ((0 : Nat) : Int)) _
      refine ev_up (σ := Unit) (fun _ i k => spec_AcquireLock.l0 k a b l (i : Int)) p (fun _ _ => True) (fun _ _ => (l.take p ++ [(⟨a, b⟩ : S91)] ++ l.drop p, true)) ?_ ?_ () 0 (Nat.zero_le _) trivial
      · intro _ i hi _ ih
        have g1 : (i : Int) < (l.length : Int) := by omega
        have e0 := wrap_up (show i < l.length by omega) (by omega)
        have e : ∀ k, spec_AcquireLock.l0 (k + 1) a b l (i : Int) = spec_AcquireLock.l0 k a b l ((i + 1 : Nat) : Int) := by
          intro k
          rw [spec_AcquireLock.l0, if_pos g1, if_pos (Int.natCast_nonneg i), if_pos (h1 i hi), e0]
        exact Ev.succ (by simp only [e]; exact ih () trivial)
      · intro _ _
        exact Ev.succ (by simp only [end_AcquireLock l a b p hl hp h2]; exact Ev.now _)
    · simp only [if_true, Bool.not_true]
      apply Ev.succ
      simp only [impl_AcquireLock.j0, Bool.false_eq_true, if_false]
      refine Ev.bind eb ?_
      have hd : decide (p < l.length ∧ (rd_T91 l (p : Int)).f0 = a) = false := decide_eq_false c
      have hins : impl_Lock_136.f l (p : Int) [(⟨a, b⟩ : S91)] = some (l.take p ++ [(⟨a, b⟩ : S91)] ++ l.drop p) := by
        unfold impl_Lock_136.f
        rw [if_pos ⟨Int.natCast_nonneg _, hpl, rfl, by omega⟩, Int.toNat_natCast]
      simp only [hd, hins, Bool.false_eq_true, if_false, Option.bind_some]
      exact Ev.now _
    · exact locks_set l a b p hp ca' cb' h1 (fun j hj hjl => by
        have g0 := h2 j hj hjl
        by_cases q : p < j
        · have g1 := (hI j hjl).2.2 (by omega)
          have g2 := h2 (j - 1) (by omega) (by omega)
          omega
        · obtain rfl : j = p := by omega
          have : (rd_T91 l (j : Int)).f0 ≠ a := fun e => c ⟨hjl, e⟩
          omega) hI
    · rw [List.length_append, List.length_append, List.length_take, List.length_drop, List.length_singleton]; omega
theorem ev_first (p : S91 → Bool) (a : Int) (hp : ∀ e : S91, impl_ReleaseLocks_1.f e.f0 e.f1 a = some (p e)) (l : List S91) (hl : l.length ≤ 1048576) : ∃ q, Ev (fun k => impl_Lock_141_b7.f k l a) q ∧ ((q = -1 ∧ ∀ j (hj : j < l.length), p l[j] = false) ∨ (∃ t : Nat, ∃ ht : t < l.length, q = (t : Int) ∧ p l[t] = true ∧ ∀ j (hj : j < l.length), j < t → p l[j] = false)) := by
  show ∃ q, Ev (fun k => impl_Lock_141_b7.l0 k l (l.length : Int) ((0 : Nat) : Int) a) q ∧ _
  refine ev_to (σ := Unit) (fun _ i k => impl_Lock_141_b7.l0 k l (l.length : Int) (i : Int) a) l.length (fun _ i => ∀ j (hj : j < l.length), j < i → p l[j] = false) (fun q => (q = -1 ∧ ∀ j (hj : j < l.length), p l[j] = false) ∨ (∃ t : Nat, ∃ ht : t < l.length, q = (t : Int) ∧ p l[t] = true ∧ ∀ j (hj : j < l.length), j < t → p l[j] = false)) ?_ ?_ () 0 (Nat.zero_le _) (fun j hj h => absurd h (by omega))
  · intro _ i hi hI ih
    have h1 : (i : Int) < (l.length : Int) := by omega
    have e0 := wrap_up hi (by omega)
    have hrd : rd_T91 l (i : Int) = l[i] := by simp [rd_T91, hi]
    by_cases c : p (rd_T91 l (i : Int)) = true
    · refine ⟨(i : Int), Ev.succ ?_, .inr ⟨i, hi, rfl, by rw [← hrd]; exact c, hI⟩⟩
      simp only [impl_Lock_141_b7.l0, h1, hp, c, Int.natCast_nonneg, if_true, Option.bind_some]; exact Ev.now _
    · have cb : p (rd_T91 l (i : Int)) = false := by simpa using c
      obtain ⟨q, hs, hR⟩ := ih () (fun j hj hji => if hh : j < i then hI j hj hh else by obtain rfl : j = i := (by omega); rw [← hrd]; exact cb)
      refine ⟨q, Ev.succ ?_, hR⟩
      simp only [impl_Lock_141_b7.l0, h1, hp, cb, e0, Int.natCast_nonneg, if_true, if_false, Option.bind_some, Bool.false_eq_true]; exact hs
  · intro _ hI
    refine ⟨-1, Ev.succ ?_, .inl ⟨rfl, fun j hj => hI j hj hj⟩⟩
    simp only [impl_Lock_141_b7.l0, Int.lt_irrefl, if_false]; exact Ev.now _
theorem ev_delete (p : S91 → Bool) (a : Int) (hp : ∀ e : S91, impl_ReleaseLocks_1.f e.f0 e.f1 a = some (p e)) (l : List S91) (hl : l.length ≤ 1048576) : Ev (fun k => impl_Lock_139.f k l a) (l.filter (fun e => !p e)) := by
  obtain ⟨q, eq, hq⟩ := ev_first p a hp l hl
  unfold impl_Lock_139.f
  refine Ev.bind eq ?_
  rcases hq with ⟨rfl, hn⟩ | ⟨t, ht, rfl, hpt, hn⟩
  · simp only [if_true, filter_none hn]; exact Ev.now _
  · have hne : ¬ ((t : Int) = -1) := by omega
    have e0 := wrap_up ht (by omega)
    simp only [hne, if_false, e0]
    refine ev_up (σ := List S91 × Nat) (fun s j k => impl_Lock_139.l0 k s.1 (s.2 : Int) (j : Int) a) l.length (fun s j => Del p l s.1 s.2 j) (fun _ _ => l.filter (fun e => !p e)) ?_ ?_ (l, t) (t + 1) (by omega) (Del.start ht hpt hn)
    · rintro ⟨xs, i⟩ j hj hI ih
      have hlen := hI.1
      have hij := hI.2.1
      dsimp only at hlen hij hI ih ⊢
      have h1 : (j : Int) < (xs.length : Int) := by omega
      have hjx : j < xs.length := by omega
      have e1 := wrap_up hj (by omega)
      have hrd : rd_T91 xs (j : Int) = l[j] := by rw [← hI.get hjx hj]; simp [rd_T91, hjx]
      apply Ev.succ
      by_cases c : p (rd_T91 xs (j : Int)) = true
      · simp only [impl_Lock_139.l0, h1, hp, c, e1, Int.natCast_nonneg, if_true, Option.bind_some]
        exact ih (xs, i) (hI.skip hj (by rw [← hrd]; exact c))
      · have cb : p (rd_T91 xs (j : Int)) = false := by simpa using c
        have h2 : (i : Int) < (xs.length : Int) := by omega
        have e2 := wrap_up (show i < l.length by omega) (by omega)
        simp only [impl_Lock_139.l0, h1, h2, hp, cb, e1, e2, Int.natCast_nonneg, if_true, if_false, Option.bind_some, Bool.false_eq_true, Int.toNat_natCast]
        exact ih (xs.set i (rd_T91 xs (j : Int)), i + 1) (hI.keep hj (by rw [← hrd]; exact cb) hrd)
    · rintro ⟨xs, i⟩ hI
      have hlen := hI.1
      have hij := hI.2.1
      dsimp only at hlen hij hI ⊢
      have h1 : ¬ ((l.length : Int) < (xs.length : Int)) := by omega
      have h2 : (i : Int) ≤ (xs.length : Int) := by omega
      apply Ev.succ
      simp only [impl_Lock_139.l0, h1, h2, Int.natCast_nonneg, if_true, if_false, Int.toNat_natCast]
      refine Ev.some ?_
      rw [← hI.done]
      unfold clr
      rw [List.take_append_of_le_length (by rw [List.length_take]; omega), List.take_take, Nat.min_self]
theorem ev_filter (p : S91 → Bool) (a : Int) (L : Nat → List S91 → Int → Option (List S91)) (l : List S91) (hl : l.length ≤ 1048576)
    (hstop : ∀ k ys, L (k + 1) ys (l.length : Int) = some ys)
    (hgo : ∀ k ys i (hi : i < l.length), ys.length ≤ 1048576 → L (k + 1) ys (i : Int) = if p l[i] = true then L k ys ((i + 1 : Nat) : Int) else L k (ys ++ [l[i]]) ((i + 1 : Nat) : Int)) : Ev (fun k => L k [] ((0 : Nat) : Int)) (l.filter (fun e => !p e)) := by
  refine ev_up (σ := List S91) (fun ys i k => L k ys (i : Int)) l.length (fun ys i => ys = (l.take i).filter (fun e => !p e)) (fun _ _ => l.filter (fun e => !p e)) ?_ ?_ [] 0 (Nat.zero_le _) (by simp)
  · rintro ys i hi rfl ih
    have hle : ((l.take i).filter (fun e => !p e)).length ≤ 1048576 := Nat.le_trans (List.length_filter_le ..) (by rw [List.length_take]; omega)
    apply Ev.succ
    simp only [hgo _ _ i hi hle]
    by_cases c : p l[i] = true
    · simp only [c, if_true]
      exact ih _ (by rw [take_succ_filter _ _ _ hi]; simp [c])
    · simp only [c, Bool.false_eq_true, if_false]
      exact ih _ (by rw [take_succ_filter _ _ _ hi]; simp [c])
  · rintro ys rfl
    apply Ev.succ
    simp only [hstop]
    exact Ev.some (by rw [List.take_length])
theorem key_one {l : List S91} (h : GoodL l) {a b : Int} (hm : (⟨a, b⟩ : S91) ∈ l) (e : S91) (he : e ∈ l) (ha : e.f0 = a) : e.f1 = b := by
  obtain ⟨_, hp⟩ := good_ok h
  obtain ⟨i, hi, hie⟩ := List.getElem_of_mem hm
  obtain ⟨j, hj, rfl⟩ := List.getElem_of_mem he
  rw [List.pairwise_iff_getElem] at hp
  rcases Nat.lt_trichotomy i j with q | q | q
  · have := hp i j hi hj q
    rw [hie, ha] at this; exact absurd this (Int.lt_irrefl _)
  · subst q; rw [hie]
  · have := hp j i hj hi q
    rw [hie, ha] at this; exact absurd this (Int.lt_irrefl _)
theorem place_at {l : List S91} (h : GoodL l) {a b : Int} (hm : (⟨a, b⟩ : S91) ∈ l) : ∃ p : Nat, ∃ hp : p < l.length, (∀ j : Nat, j < p → (rd_T91 l (j : Int)).f0 < a) ∧ (∀ j : Nat, p ≤ j → j < l.length → a ≤ (rd_T91 l (j : Int)).f0) ∧ (rd_T91 l (p : Int)).f0 = a ∧ (rd_T91 l (p : Int)).f1 = b := by
  obtain ⟨_, hp⟩ := good_ok h
  obtain ⟨p, hpl, hpe⟩ := List.getElem_of_mem hm
  rw [List.pairwise_iff_getElem] at hp
  refine ⟨p, hpl, fun j hj => ?_, fun j hj hjl => ?_, by rw [rdL l p hpl, hpe], by rw [rdL l p hpl, hpe]⟩
  · have := hp j p (by omega) hpl hj
    rw [hpe] at this
    rw [rdL l j (by omega)]; exact this
  · rw [rdL l j hjl]
    by_cases q : p = j
    · subst q; rw [hpe]; exact Int.le_refl _
    · have := hp p j hpl hjl (by omega)
      rw [hpe] at this; exact Int.le_of_lt this
theorem locks_true (l : List S91) (hl : l.length ≤ 1048576) (h : GoodL l) : Ev (fun k => impl_AreLocks.f k l) true := by
  refine ev_up (σ := Unit) (fun _ i k => impl_AreLocks.l0 k l l (l.length : Int) (i : Int)) l.length (fun _ _ => True) (fun _ _ => true) ?_ ?_ () 0 (Nat.zero_le _) trivial
  · intro _ i hi _ ih
    obtain ⟨⟨c0, c1⟩, ⟨c2, c3⟩, c7⟩ := h i hi
    have h1 : (i : Int) < (l.length : Int) := by omega
    have e0 := wrap_up hi (by omega)
    by_cases c5 : 0 < i
    · have e1 : wrap64 ((i : Int) - 1) = ((i - 1 : Nat) : Int) := wrap_down c5 (by omega)
      have h2 : ((i - 1 : Nat) : Int) < (l.length : Int) := by omega
      have h3 : (i : Int) > 0 := by omega
      have c6 : ¬ (rd_T91 l ((i - 1 : Nat) : Int)).f0 ≥ (rd_T91 l i).f0 := by have := c7 c5; omega
      apply Ev.succ
      simp only [impl_AreLocks.l0, impl_isKey.f, impl_isID.f, impl_in.f, h1, h2, h3, c0, c1, c2, c3, c6, e1, e0, Int.natCast_nonneg, ge_iff_le, decide_true, if_true, if_false, Option.bind_some]
      exact ih () trivial
    · have h3 : ¬ ((i : Int) > 0) := by omega
      apply Ev.succ
      simp only [impl_AreLocks.l0, impl_isKey.f, impl_isID.f, impl_in.f, h1, h3, c0, c1, c2, c3, e0, Int.natCast_nonneg, ge_iff_le, decide_true, if_true, if_false, Option.bind_some]
      exact ih () trivial
  · intro _ _
    apply Ev.succ
    simp only [impl_AreLocks.l0, Int.lt_irrefl, if_false]; exact Ev.now _
theorem acq_at (l : List S91) (hl : l.length ≤ 1048576) (h : GoodL l) (a b c : Int) (hm : (⟨a, b⟩ : S91) ∈ l) (ha : 0 ≤ a ∧ a ≤ 5) (hc : 1 ≤ c ∧ c ≤ 9) : Ev (fun k => impl_AcquireLock.f k l a c) (l, b == c) := by
  obtain ⟨p, hp, h1, h2, hf0, hf1⟩ := place_at h hm
  have eb := search_Lock l a hl p (by omega) h1 h2
  have hcap : ([] : List S91).length + l.length < 8796093022208 := by simp; omega
  have hclone : impl_Lock_130.f l = some l := by simp only [impl_Lock_130.f, Option.bind_some, hcap, if_true, List.nil_append]
  have hg' : impl_isID.f c = some true := by simp [impl_isID.f, impl_in.f, hc.1, hc.2]
  have hk1 : impl_isKey.f a = some true := by simp [impl_isKey.f, impl_in.f, ha.1, ha.2]
  have g1 : (p : Int) < (l.length : Int) := by omega
  unfold impl_AcquireLock.f
  simp only [hclone, Option.bind_some]
  refine Ev.bind (locks_true l hl h) ?_
  simp only [hg', hk1, if_true, Option.bind_some, Bool.not_true]
  apply Ev.succ
  simp only [impl_AcquireLock.j0, Bool.false_eq_true, if_false]
  refine Ev.bind eb ?_
  simp only [hp, hf0, hf1, g1, and_self, decide_true, Int.natCast_nonneg, if_true]
  exact Ev.now _
theorem ev_LocksOf (l : List S91) (a : Int) (hl : l.length ≤ 1048576) : Ev (fun k => impl_LocksOf.f k l a) ((l.filter (fun e => e.f1 == a)).map (fun e => e.f0)) := by
  refine ev_up (σ := List Int) (fun s i k => impl_LocksOf.l0 k a s l (l.length : Int) (i : Int)) l.length (fun s i => s = ((l.take i).filter (fun e => e.f1 == a)).map (fun e => e.f0)) (fun _ _ => (l.filter (fun e => e.f1 == a)).map (fun e => e.f0)) ?_ ?_ [] 0 (Nat.zero_le _) (by simp)
  · rintro s i hi rfl ih
    have h1 : (i : Int) < (l.length : Int) := by omega
    have e0 := wrap_up hi (by omega)
    have h2 : (((l.take i).filter (fun e => e.f1 == a)).map (fun e => e.f0)).length < 17592186044416 := by
      rw [List.length_map]
      have := List.length_filter_le (fun e : S91 => e.f1 == a) (l.take i)
      rw [List.length_take] at this; omega
    apply Ev.succ
    by_cases c : (rd_T91 l (i : Int)).f1 = a
    · simp only [impl_LocksOf.l0, h1, c, h2, e0, Int.natCast_nonneg, if_true]
      refine ih _ ?_
      rw [rdL l i hi] at c ⊢
      rw [List.take_succ_eq_append_getElem hi, List.filter_append, List.map_append]
      simp [c]
    · simp only [impl_LocksOf.l0, h1, c, e0, Int.natCast_nonneg, if_true, if_false]
      refine ih _ ?_
      rw [rdL l i hi] at c
      rw [List.take_succ_eq_append_getElem hi, List.filter_append, List.map_append]
      simp [c]
  · rintro s rfl
    apply Ev.succ
    simp only [impl_LocksOf.l0, Int.lt_irrefl, if_false]
    exact Ev.some (by rw [List.take_length])
theorem ev_Release (l : List S91) (a : Int) (hl : l.length ≤ 1048576) : Ev (fun k => impl_ReleaseLocks.f k l a) (l.filter (fun e => !(e.f1 == a))) := by
  unfold impl_ReleaseLocks.f
  have hcap : ([] : List S91).length + l.length < 8796093022208 := by simp; omega
  have hclone : impl_Lock_130.f l = some l := by simp only [impl_Lock_130.f, Option.bind_some, hcap, if_true, List.nil_append]
  simp only [hclone, Option.bind_some]
  exact Ev.bind (ev_delete (fun e => e.f1 == a) a (fun e => rfl) l hl) (Ev.now _)
theorem ev_has (l : List Int) (a : Int) (hl : l.length ≤ 1048576) (hm : a ∈ l) : Ev (fun k => laws_has.f k l a) true := by
  refine ev_up (σ := Unit) (fun _ i k => laws_has.l0 k l a (i : Int)) l.length (fun _ i => ∀ j (hj : j < l.length), j < i → l[j] ≠ a) (fun _ _ => true) ?_ ?_ () 0 (Nat.zero_le _) (fun j hj h => absurd h (by omega))
  · intro _ i hi hI ih
    have h1 : (i : Int) < (l.length : Int) := by omega
    have hrd : rd l (i : Int) = l[i] := by simp [rd, hi]
    apply Ev.succ
    by_cases c : rd l (i : Int) = a
    · simp only [laws_has.l0, h1, c, Int.natCast_nonneg, if_true]; exact Ev.now _
    · simp only [laws_has.l0, h1, c, wrap_up hi (by omega), Int.natCast_nonneg, if_true, if_false]
      exact ih () (fun j hj hji => if hh : j < i then hI j hj hh else by obtain rfl : j = i := (by omega); rw [← hrd]; exact c)
  · intro _ hI
    obtain ⟨j, hj, hja⟩ := List.getElem_of_mem hm
    exact absurd hja (hI j hj hj)
theorem filter_both {β : Type} (p : β → Bool) : ∀ l : List β, (l.filter (fun e => !p e)).length + (l.filter p).length = l.length
  | [] => rfl
  | x :: l => by
    have := filter_both p l
    cases h : p x <;> simp only [List.filter_cons, h, Bool.not_true, Bool.not_false, Bool.false_eq_true, if_true, if_false, List.length_cons] <;> omega
theorem locks_ok (b : List Int) (i h : Int) (hb : b.length ≤ 1048576) (hi : 0 ≤ i ∧ i ≤ (b.length : Int)) : ∃ r, Ev (fun k => spec_l10Locks.f k b i h) r ∧ r.1.length ≤ 8 ∧ (0 ≤ r.2.1 ∧ r.2.1 ≤ (b.length : Int)) := by
  have key : ∀ (m : Nat), m ≤ 6 → ∀ (xs : List S91) (i h : Int), (0 ≤ i ∧ i ≤ (b.length : Int)) → xs.length + m ≤ 6 → ∃ r, Ev (fun k => spec_l10Locks.l0 k xs ((6 - m : Nat) : Int) b i h) r ∧ r.1.length ≤ 8 ∧ (0 ≤ r.2.1 ∧ r.2.1 ≤ (b.length : Int)) := by
    intro m
    induction m with
    | zero =>
      intro _ xs i h hi hx
      apply ex_succ
      simp only [spec_l10Locks.l0]
      refine ex_ite (fun c => absurd c (by decide)) (fun _ => ?_)
      obtain ⟨z, i1, h1, e1, hi1⟩ := once_ok b i h 14 hb hi (by decide) (by decide)
      refine ex_bind e1 ?_
      refine ex_ite (fun _ => ?_) (fun _ => ex_now ⟨by dsimp only; omega, hi1⟩)
      obtain ⟨x, i2, h2, e2, _, hi2⟩ := below_ok b i1 h1 7 hb hi1 (by decide) (by decide)
      refine ex_bind e2 ?_
      obtain ⟨y, i3, h3, e3, hi3⟩ := pick_ok b i2 h2 [0, 9, 10] hb hi2 (by decide) (by decide)
      refine ex_bind e3 ?_
      exact ex_ite (fun _ => ex_now ⟨by simp; omega, hi3⟩) (fun c => absurd (by omega) c)
    | succ m ih =>
      intro hm xs i h hi hx
      have hw : wrap64 (((6 - (m + 1) : Nat) : Int) + 1) = ((6 - m : Nat) : Int) := by unfold wrap64; omega
      apply ex_succ
      simp only [spec_l10Locks.l0]
      rw [hw]
      refine ex_ite (fun _ => ?_) (fun c => absurd (by omega) c)
      obtain ⟨z, i1, h1, e1, hi1⟩ := once_ok b i h 3 hb hi (by decide) (by decide)
      refine ex_bind e1 ?_
      refine ex_ite (fun _ => ?_) (fun _ => ih (by omega) xs i1 h1 hi1 (by omega))
      obtain ⟨x, i2, h2, e2, _, hi2⟩ := below_ok b i1 h1 4 hb hi1 (by decide) (by decide)
      refine ex_bind e2 ?_
      exact ex_ite (fun _ => ih (by omega) _ i2 h2 hi2 (by simp; omega)) (fun c => absurd (by omega) c)
  exact key 6 (Nat.le_refl _) [] i h hi (by simp)
theorem acquire_ok (b : List Int) (hb : b.length ≤ 1048576) : ∃ r, Ev (fun k => spec_DrawAcquireLock.f k b) r ∧ r.1.length ≤ 8 := by
  unfold spec_DrawAcquireLock.f
  obtain ⟨h0, e0⟩ := new_ok b hb
  refine ex_bindE e0 ?_
  obtain ⟨⟨p, i1, h1⟩, e1, hp, hi1⟩ := locks_ok b 0 h0 hb ⟨Int.le_refl _, by omega⟩
  dsimp only at hp hi1
  refine ex_bindE e1 ?_
  obtain ⟨x, i2, h2, e2, _, hi2⟩ := below_ok b i1 h1 8 hb hi1 (by decide) (by decide)
  refine ex_bind e2 ?_
  obtain ⟨y, i3, h3, e3, _, hi3⟩ := below_ok b i2 h2 6 hb hi2 (by decide) (by decide)
  exact ex_bind e3 (ex_now hp)
theorem FnLocks : laws_FnLocks.Pure := by
  intro b _ _ _
  apply Ev.rounds
  unfold laws_FnLocks.f laws_big.f
  simp only [Option.bind_some]
  by_cases h : (b.length : Int) > 1048576
  · simp only [h, decide_true, if_true]; exact Ev.now _
  have hb : b.length ≤ 1048576 := by omega
  simp only [h, decide_false, Bool.false_eq_true, if_false]
  obtain ⟨⟨l, a, o⟩, e1, hl⟩ := acquire_ok b hb
  dsimp only at hl
  obtain ⟨⟨x, is⟩, e2, e3, hno, hyes⟩ := both_AcquireLock2 l a o (by omega)
  obtain ⟨v, e4, e5, _⟩ := both_AreLocks2 l (by omega)
  dsimp only at hno hyes
  refine Ev.bind e1 (Ev.bind e3 (Ev.bind e2 ?_))
  simp only [bne_self_eq_false, Bool.false_eq_true, if_false, if_true]
  refine Ev.bind e5 (Ev.bind e4 ?_)
  simp only [bne_self_eq_false]
  apply Ev.succ
  simp only [laws_FnLocks.j0, Bool.false_eq_true, if_false]
  have hxl : x.length ≤ 1048576 := by
    cases is
    · rw [hno rfl]; omega
    · have := (hyes rfl).2.2.2.2; omega
  show Ev (fun k => laws_FnLocks.l0 k l a o x is x ((0 : Nat) : Int)) true
  refine ev_up (σ := Unit) (fun _ i k => laws_FnLocks.l0 k l a o x is x (i : Int)) x.length (fun _ _ => True) (fun _ _ => true) ?_ ?_ () 0 (Nat.zero_le _) trivial
  · intro _ i hi _ ih
    have h1 : (i : Int) < (x.length : Int) := by omega
    apply Ev.succ
    simp only [laws_FnLocks.l0, h1, Int.natCast_nonneg, if_true, beq_self_eq_true, Bool.not_true, Bool.or_false, Bool.false_eq_true, if_false, wrap_up hi (by omega)]
    exact ih () trivial
  intro _ _
  apply Ev.succ
  simp only [laws_FnLocks.l0, Int.lt_irrefl, if_false]
  cases is
  · simp only [Bool.false_eq_true, if_false]
    exact Ev.some (by rw [hno rfl]; simp)
  simp only [if_true]
  obtain ⟨ha, ho, hg, hm, _⟩ := hyes rfl
  have hother : wrap64 (Int.tmod o 9 + 1) = Int.tmod o 9 + 1 := by
    have h0 := Int.tmod_nonneg 9 (show 0 ≤ o by omega)
    have h1 := Int.tmod_lt_of_pos o (show (0 : Int) < 9 by decide)
    exact wrap_in (by omega) (by omega)
  have htm : Int.tmod o 9 = if o = 9 then 0 else o := by
    rcases (show o = 1 ∨ o = 2 ∨ o = 3 ∨ o = 4 ∨ o = 5 ∨ o = 6 ∨ o = 7 ∨ o = 8 ∨ o = 9 by omega) with rfl | rfl | rfl | rfl | rfl | rfl | rfl | rfl | rfl <;> rfl
  have hne : (o == Int.tmod o 9 + 1) = false := by
    rw [htm]
    have : o ≠ (if o = 9 then 0 else o) + 1 := by split <;> omega
    simpa using this
  have hc : 1 ≤ Int.tmod o 9 + 1 ∧ Int.tmod o 9 + 1 ≤ 9 := by
    rw [htm]; split <;> omega
  rw [hother]
  refine Ev.bind (acq_at x hxl hg a o _ hm ha hc) (Ev.bind (acq_at x hxl hg a o o hm ha ho) (Ev.bind (ev_Release x o hxl) ?_))
  simp only [hne, Bool.false_eq_true, if_false, beq_self_eq_true, if_true]
  refine Ev.bind (locks_true x hxl hg) ?_
  simp only [if_true]
  obtain ⟨p, hp, h1, h2, hf0, hf1⟩ := place_at hg hm
  obtain ⟨w, es, ei, _⟩ := both_LockOwner x a hxl
  have hw : w = o := by rw [← hf1]; exact Ev.uniq es (owner_at x a hxl p hp h1 hf0)
  subst hw
  refine Ev.bind ei ?_
  simp only [if_true]
  have hlo : ((x.filter (fun e => e.f1 == w)).map (fun e => e.f0)).length ≤ 1048576 := by
    rw [List.length_map]; exact Nat.le_trans (List.length_filter_le ..) hxl
  refine Ev.bind (ev_LocksOf x w hxl) (Ev.bind (ev_has _ a hlo ?_) ?_)
  · rw [List.mem_map]
    exact ⟨⟨a, w⟩, List.mem_filter.2 ⟨hm, by simp⟩, rfl⟩
  simp only [if_true]
  have hzl : (x.filter (fun e => !(e.f1 == w))).length ≤ 1048576 := Nat.le_trans (List.length_filter_le ..) hxl
  obtain ⟨u, es, ei, _⟩ := both_LockOwner (x.filter (fun e => !(e.f1 == w))) a hzl
  have hu : u = 0 := Ev.uniq es (owner_none _ a hzl (by
    intro j hj e
    rw [rdL _ j hj] at e
    have hmem := List.getElem_mem hj
    rw [List.mem_filter] at hmem
    have := key_one hg hm _ hmem.1 e
    simp [this] at hmem))
  subst hu
  refine Ev.bind ei ?_
  simp only [if_true]
  have hnil : ((x.filter (fun e => !(e.f1 == w))).filter (fun e => e.f1 == w)).map (fun e => e.f0) = [] := by
    rw [List.map_eq_nil_iff, List.filter_eq_nil_iff]
    intro e he
    have := (List.mem_filter.1 he).2
    simpa using this
  have el := ev_LocksOf (x.filter (fun e => !(e.f1 == w))) w hzl
  rw [hnil] at el
  refine Ev.bind el ?_
  have h00 : ((([] : List Int).length : Nat) : Int) = 0 := rfl
  simp only [h00, if_true]
  refine Ev.bind (ev_LocksOf x w hxl) ?_
  have hsum := filter_both (fun e : S91 => e.f1 == w) x
  refine Ev.some ?_
  rw [List.length_map, wrap_in (by omega) (by omega)]
  simp only [beq_iff_eq]
  omega

end Go.Proofs.Ytpiaeinfneoioaa.Pure
