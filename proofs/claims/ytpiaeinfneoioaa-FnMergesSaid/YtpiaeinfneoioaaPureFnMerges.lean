/- The plain statement of FnMerges: what is drawn ends, both functions take the same operations, no more than the schedule is long, and both checks of a program answer alike. Condition: the code's length is at most maxLen. -/
import Derived.Test.YtpiaeinfneoioaaPFnMergesx13
import Derived.Test.YtpiaeinfneoioaaPlainT
namespace Go.Proofs.Ytpiaeinfneoioaa.Pure
open Go.RowKit Go.Proofs.Ytpiaeinfneoioaa.PFnMerges Go.Proofs.YtpiaeinfneoioaaW.PrintWords Go.Proofs.YtpiaeinfneoioaaW.PrintLast Go.Proofs.Ytpiaeinfneoioaa.Plain
set_option linter.unusedVariables false
set_option linter.unusedSimpArgs false


theorem l1In_eq (a b c : Int) : spec_l1In.f a b c = some (decide (b ≤ a) && decide (a ≤ c)) := by
  by_cases h : b ≤ a <;> simp [spec_l1In.f, h]
theorem in_eq (a b c : Int) : impl_in.f a b c = some (decide (b ≤ a) && decide (a ≤ c)) := by
  by_cases h : b ≤ a <;> simp [impl_in.f, h]
set_option maxHeartbeats 8000000 in
theorem both_IsValidOp3 (a0 a1 a2 a3 a4 a5 : Int) : ∃ b, spec_IsValidOp.f 3 a0 a1 a2 a3 a4 a5 = some b ∧ impl_IsValidOp.f 3 a0 a1 a2 a3 a4 a5 = some b := by
  by_cases c1 : a0 = 1
  · subst c1
    by_cases h3 : a3 = 0 <;> by_cases h4 : a4 = 0 <;> by_cases h5 : a5 = 0 <;> by_cases h1 : 1 ≤ a1 <;> by_cases h1' : a1 ≤ 9 <;> by_cases h2 : 1 ≤ a2 <;> by_cases h2' : a2 ≤ 4 <;>
      simp [spec_IsValidOp.f, impl_IsValidOp.f, spec_IsValidOp.j1, spec_IsValidOp.j2, impl_IsValidOp.j0, impl_isID.f, impl_isScheme.f, l1In_eq, in_eq, h3, h4, h5, h1, h1', h2, h2', eq_comm (a := (0 : Int))]
  by_cases c2 : a0 = 2
  · subst c2
    by_cases h3 : a2 = 0 <;> by_cases h4 : a4 = 0 <;> by_cases h5 : a5 = 0 <;> by_cases h1 : 1 ≤ a1 <;> by_cases h1' : a1 ≤ 9 <;> by_cases h2 : 0 ≤ a3 <;> by_cases h2' : a3 ≤ 5 <;>
      simp [spec_IsValidOp.f, impl_IsValidOp.f, spec_IsValidOp.j1, spec_IsValidOp.j2, impl_IsValidOp.j0, impl_isID.f, impl_isKey.f, l1In_eq, in_eq, h3, h4, h5, h1, h1', h2, h2', eq_comm (a := (0 : Int))]
  by_cases c3 : a0 = 3
  · subst c3
    by_cases h3 : a2 = 0 <;> by_cases h4 : a4 = 0 <;> by_cases h1 : 1 ≤ a1 <;> by_cases h1' : a1 ≤ 9 <;> by_cases h2 : 0 ≤ a3 <;> by_cases h2' : a3 ≤ 5 <;> by_cases h6 : -1 ≤ a5 <;> by_cases h6' : a5 ≤ 99 <;>
      simp [spec_IsValidOp.f, impl_IsValidOp.f, spec_IsValidOp.j1, spec_IsValidOp.j2, impl_IsValidOp.j0, impl_isID.f, impl_isKey.f, impl_isValue.f, l1In_eq, in_eq, h3, h4, h1, h1', h2, h2', h6, h6', eq_comm (a := (0 : Int))]
  by_cases c4 : a0 = 4
  · subst c4
    by_cases h3 : a2 = 0 <;> by_cases h5 : a5 = 0 <;> by_cases h1 : 1 ≤ a1 <;> by_cases h1' : a1 ≤ 9 <;> by_cases h2 : 0 ≤ a3 <;> by_cases h2' : a3 ≤ 5 <;> by_cases h6 : a3 ≤ a4 <;> by_cases h6' : a4 ≤ 5 <;>
      simp [spec_IsValidOp.f, impl_IsValidOp.f, spec_IsValidOp.j1, spec_IsValidOp.j2, impl_IsValidOp.j0, impl_isID.f, impl_isKey.f, l1In_eq, in_eq, h3, h5, h1, h1', h2, h2', h6, h6', eq_comm (a := (0 : Int))]
  by_cases c5 : a0 = 5
  · subst c5
    by_cases h2 : a2 = 0 <;> by_cases h3 : a3 = 0 <;> by_cases h4 : a4 = 0 <;> by_cases h5 : a5 = 0 <;> by_cases h1 : 1 ≤ a1 <;> by_cases h1' : a1 ≤ 9 <;>
      simp [spec_IsValidOp.f, impl_IsValidOp.f, spec_IsValidOp.j1, spec_IsValidOp.j2, spec_IsValidOp.j0, impl_IsValidOp.j0, impl_isID.f, impl_isKey.f, l1In_eq, in_eq, h2, h3, h4, h5, h1, h1', eq_comm (a := (0 : Int))]
  by_cases c6 : a0 = 6
  · subst c6
    by_cases h2 : a2 = 0 <;> by_cases h3 : a3 = 0 <;> by_cases h4 : a4 = 0 <;> by_cases h5 : a5 = 0 <;> by_cases h1 : 1 ≤ a1 <;> by_cases h1' : a1 ≤ 9 <;>
      simp [spec_IsValidOp.f, impl_IsValidOp.f, spec_IsValidOp.j1, spec_IsValidOp.j2, spec_IsValidOp.j0, impl_IsValidOp.j0, impl_isID.f, impl_isKey.f, l1In_eq, in_eq, h2, h3, h4, h5, h1, h1', eq_comm (a := (0 : Int))]
  · have hk : (decide (1 ≤ a0) && decide (a0 ≤ 6)) = false := by
      by_cases d1 : 1 ≤ a0 <;> by_cases d2 : a0 ≤ 6 <;> simp [d1, d2] <;> omega
    simp [spec_IsValidOp.f, impl_IsValidOp.f, spec_IsValidOp.j0, impl_IsValidOp.j0, in_eq, c1, c2, c3, c4, c5, c6, hk]
theorem both_IsValidOp (a0 a1 a2 a3 a4 a5 : Int) : ∃ b, Ev (fun k => spec_IsValidOp.f k a0 a1 a2 a3 a4 a5) b ∧ Ev (fun k => impl_IsValidOp.f k a0 a1 a2 a3 a4 a5) b := by
  obtain ⟨b, h1, h2⟩ := both_IsValidOp3 a0 a1 a2 a3 a4 a5
  exact ⟨b, Ev.of (spec_IsValidOp.mono _ _ _ _ _ _) h1, Ev.of (impl_IsValidOp.mono _ _ _ _ _ _) h2⟩
theorem ex_succ {α : Type} {g : Nat → Option α} {P : α → Prop} (h : ∃ r, Ev (fun k => g (k + 1)) r ∧ P r) : ∃ r, Ev g r ∧ P r := by
  obtain ⟨r, a, b⟩ := h
  exact ⟨r, Ev.succ a, b⟩
theorem ex_ite {α : Type} {c : Prop} [Decidable c] {f g : Nat → Option α} {P : α → Prop} (h1 : c → ∃ r, Ev f r ∧ P r) (h2 : ¬ c → ∃ r, Ev g r ∧ P r) : ∃ r, Ev (fun k => if c then f k else g k) r ∧ P r := by
  by_cases h : c
  · simpa only [if_pos h] using h1 h
  · simpa only [if_neg h] using h2 h
theorem ex_now {α : Type} {x : α} {P : α → Prop} (h : P x) : ∃ r, Ev (fun _ => some x) r ∧ P r := ⟨x, Ev.now _, h⟩
theorem ex_bind {α β : Type} {x : Option α} {a : α} (e : x = some a) {g : Nat → α → Option β} {P : β → Prop} (h : ∃ r, Ev (fun k => g k a) r ∧ P r) : ∃ r, Ev (fun k => x.bind (g k)) r ∧ P r := by
  subst e; exact h
theorem ex_bindE {α β : Type} {f : Nat → Option α} {a : α} (e : Ev f a) {g : Nat → α → Option β} {P : β → Prop} (h : ∃ r, Ev (fun k => g k a) r ∧ P r) : ∃ r, Ev (fun k => (f k).bind (g k)) r ∧ P r := by
  obtain ⟨r, h1, h2⟩ := h
  exact ⟨r, Ev.bind e h1, h2⟩
theorem and255 (x : Int) : 0 ≤ Go.bits .and .i64 x 255 ∧ Go.bits .and .i64 x 255 ≤ 255 := by
  have h : Go.bits .and .i64 x 255 = IntKind.i64.wrap (((BitVec.ofInt 64 x &&& BitVec.ofInt 64 255).toNat : Nat) : Int) := rfl
  rw [h, BitVec.toNat_and, show (BitVec.ofInt 64 255).toNat = 255 from by decide]
  have h3 : (BitVec.ofInt 64 x).toNat &&& 255 ≤ 255 := Nat.and_le_right
  rw [IntKind.wrap_i64]; omega
theorem byte_ok (b : List Int) (i h : Int) (hb : b.length ≤ 1048576) (hi : 0 ≤ i ∧ i ≤ (b.length : Int)) : ∃ x i' h', spec_l1Byte.f b i h = some (x, i', h') ∧ (0 ≤ x ∧ x ≤ 255) ∧ (0 ≤ i' ∧ i' ≤ (b.length : Int)) := by
  unfold spec_l1Byte.f
  by_cases c : i < (b.length : Int)
  · have hw : wrap64 (i + 1) = i + 1 := wrap_in (by omega) (by omega)
    rw [if_pos c, if_pos hi.1, hw]
    exact ⟨_, _, _, rfl, and255 _, by omega, by omega⟩
  · rw [if_neg c]
    exact ⟨_, _, _, rfl, and255 _, hi⟩
theorem below_ok (b : List Int) (i h n : Int) (hb : b.length ≤ 1048576) (hi : 0 ≤ i ∧ i ≤ (b.length : Int)) (hn : 1 ≤ n) (hn' : n ≤ 256) : ∃ x i' h', spec_l1Below.f b i h n = some (x, i', h') ∧ (0 ≤ x ∧ x < n) ∧ (0 ≤ i' ∧ i' ≤ (b.length : Int)) := by
  obtain ⟨x, i', h', e, hx, hi'⟩ := byte_ok b i h hb hi
  have c0 : ¬ n ≤ 0 := by omega
  have c2 : ¬ n = 0 := by omega
  refine ⟨Int.tmod x n, i', h', ?_, ⟨Int.tmod_nonneg n hx.1, Int.tmod_lt_of_pos x (by omega)⟩, hi'⟩
  unfold spec_l1Below.f
  rw [if_neg c0, if_pos hn', e]
  show (if n = 0 then none else some (Int.tmod x n, i', h')) = _
  rw [if_neg c2]
theorem once_ok (b : List Int) (i h n : Int) (hb : b.length ≤ 1048576) (hi : 0 ≤ i ∧ i ≤ (b.length : Int)) (hn : 1 ≤ n) (hn' : n ≤ 256) : ∃ x i' h', spec_l1Once.f b i h n = some (x, i', h') ∧ (0 ≤ i' ∧ i' ≤ (b.length : Int)) := by
  obtain ⟨x, i', h', e, hx, hi'⟩ := below_ok b i h n hb hi hn hn'
  refine ⟨x == 0, i', h', ?_, hi'⟩
  unfold spec_l1Once.f
  rw [e]; rfl
theorem pick_ok (b : List Int) (i h : Int) (l : List Int) (hb : b.length ≤ 1048576) (hi : 0 ≤ i ∧ i ≤ (b.length : Int)) (hn : 1 ≤ (l.length : Int)) (hn' : (l.length : Int) ≤ 256) : ∃ x i' h', spec_l1PickInt.f b i h l = some (x, i', h') ∧ (0 ≤ i' ∧ i' ≤ (b.length : Int)) := by
  obtain ⟨x, i', h', e, hx, hi'⟩ := below_ok b i h (l.length : Int) hb hi hn hn'
  refine ⟨rd l x, i', h', ?_, hi'⟩
  unfold spec_l1PickInt.f
  rw [e]
  show (if 0 ≤ x then (if x < (l.length : Int) then some (rd l x, i', h') else none) else none) = _
  rw [if_pos hx.1, if_pos hx.2]
theorem op_j2 (b : List Int) (i h x5 x6 x18 : Int) (t : Bool) (hb : b.length ≤ 1048576) (hi : 0 ≤ i ∧ i ≤ (b.length : Int)) (h6 : 0 ≤ x6 ∧ x6 ≤ 5) : ∃ r, Ev (fun k => spec_l14Op.j2 k x5 x6 x18 t b i h) r ∧ (0 ≤ r.2.2.2.2.2.2.1 ∧ r.2.2.2.2.2.2.1 ≤ (b.length : Int)) := by
  apply ex_succ
  simp only [spec_l14Op.j2]
  refine ex_ite (fun _ => ?_) (fun _ => ?_)
  · obtain ⟨x, i', h', e, hi'⟩ := pick_ok b i h [(-1), 1, 5, 10, 20] hb hi (by decide) (by decide)
    exact ex_bind e (ex_now hi')
  refine ex_ite (fun _ => ?_) (fun _ => ?_)
  · have hw : wrap64 (6 - x6) = 6 - x6 := wrap_in (by omega) (by omega)
    obtain ⟨x, i', h', e, _, hi'⟩ := below_ok b i h (6 - x6) hb hi (by omega) (by omega)
    rw [hw]
    exact ex_bind e (ex_now hi')
  refine ex_ite (fun _ => ?_) (fun _ => ?_)
  · obtain ⟨x, i', h', e, hi'⟩ := once_ok b i h 3 hb hi (by decide) (by decide)
    refine ex_bind e ?_
    exact ex_ite (fun _ => ex_now hi') (fun _ => ex_now hi')
  · exact ex_now hi
theorem op_j1 (b : List Int) (i h x5 x6 x18 : Int) (t : Bool) (hb : b.length ≤ 1048576) (hi : 0 ≤ i ∧ i ≤ (b.length : Int)) (h6 : 0 ≤ x6 ∧ x6 ≤ 5) : ∃ r, Ev (fun k => spec_l14Op.j1 k x5 x6 x18 t b i h) r ∧ (0 ≤ r.2.2.2.2.2.2.1 ∧ r.2.2.2.2.2.2.1 ≤ (b.length : Int)) := by
  apply ex_succ
  simp only [spec_l14Op.j1]
  refine ex_ite (fun _ => ex_now hi) (fun _ => ?_)
  refine ex_ite (fun _ => op_j2 b i h x5 x6 x18 _ hb hi h6) (fun _ => ?_)
  refine ex_ite (fun _ => op_j2 b i h x5 x6 x18 _ hb hi h6) (fun _ => ?_)
  exact ex_ite (fun _ => op_j2 b i h x5 x6 x18 _ hb hi h6) (fun _ => op_j2 b i h x5 x6 x18 _ hb hi h6)
theorem op_j0 (b : List Int) (i h x5 x6 : Int) (hb : b.length ≤ 1048576) (hi : 0 ≤ i ∧ i ≤ (b.length : Int)) (h6 : 0 ≤ x6 ∧ x6 ≤ 5) : ∃ r, Ev (fun k => spec_l14Op.j0 k x5 x6 b i h) r ∧ (0 ≤ r.2.2.2.2.2.2.1 ∧ r.2.2.2.2.2.2.1 ≤ (b.length : Int)) := by
  apply ex_succ
  simp only [spec_l14Op.j0]
  obtain ⟨x, i', h', e, _, hi'⟩ := below_ok b i h 12 hb hi (by decide) (by decide)
  refine ex_bind e ?_
  refine ex_ite (fun _ => op_j1 b i' h' x5 x6 x _ hb hi' h6) (fun _ => ?_)
  refine ex_ite (fun _ => op_j1 b i' h' x5 x6 x _ hb hi' h6) (fun _ => ?_)
  exact ex_ite (fun _ => op_j1 b i' h' x5 x6 x _ hb hi' h6) (fun _ => op_j1 b i' h' x5 x6 x _ hb hi' h6)
theorem op_ok (b : List Int) (i h n : Int) (hb : b.length ≤ 1048576) (hi : 0 ≤ i ∧ i ≤ (b.length : Int)) (hn : 1 ≤ n) (hn' : n ≤ 256) : ∃ r, Ev (fun k => spec_l14Op.f k b i h n) r ∧ (0 ≤ r.2.2.2.2.2.2.1 ∧ r.2.2.2.2.2.2.1 ≤ (b.length : Int)) := by
  unfold spec_l14Op.f
  obtain ⟨x, i1, h1, e1, _, hi1⟩ := below_ok b i h n hb hi hn hn'
  refine ex_bind e1 ?_
  obtain ⟨y, i2, h2, e2, hy, hi2⟩ := below_ok b i1 h1 3 hb hi1 (by decide) (by decide)
  refine ex_bind e2 ?_
  obtain ⟨z, i3, h3, e3, hi3⟩ := once_ok b i2 h2 4 hb hi2 (by decide) (by decide)
  refine ex_bind e3 ?_
  refine ex_ite (fun _ => ?_) (fun _ => ?_)
  · obtain ⟨u, i4, h4, e4, hu, hi4⟩ := below_ok b i3 h3 6 hb hi3 (by decide) (by decide)
    refine ex_bind e4 ?_
    exact op_j0 b i4 h4 _ u hb hi4 (by omega)
  · exact op_j0 b i3 h3 _ y hb hi3 (by omega)
theorem any_ok (b : List Int) (i h : Int) (hb : b.length ≤ 1048576) (hi : 0 ≤ i ∧ i ≤ (b.length : Int)) : ∃ r, Ev (fun k => spec_l14Any.f k b i h) r ∧ (0 ≤ r.2.2.2.2.2.2.1 ∧ r.2.2.2.2.2.2.1 ≤ (b.length : Int)) := by
  have j0 : ∀ (i h a0 a1 a2 a3 a4 a5 : Int), (0 ≤ i ∧ i ≤ (b.length : Int)) → ∃ r, Ev (fun k => spec_l14Any.j0 k b i h a0 a1 a2 a3 a4 a5) r ∧ (0 ≤ r.2.2.2.2.2.2.1 ∧ r.2.2.2.2.2.2.1 ≤ (b.length : Int)) := by
    intro i h a0 a1 a2 a3 a4 a5 hi
    apply ex_succ
    simp only [spec_l14Any.j0]
    obtain ⟨x, i', h', e, _, hi'⟩ := below_ok b i h 14 hb hi (by decide) (by decide)
    refine ex_bind e ?_
    refine ex_ite (fun _ => ?_) (fun _ => ?_)
    · obtain ⟨y, i2, h2, e2, _, hi2⟩ := below_ok b i' h' 8 hb hi' (by decide) (by decide)
      exact ex_bind e2 (ex_now hi2)
    refine ex_ite (fun _ => ?_) (fun _ => ?_)
    · obtain ⟨y, i2, h2, e2, hi2⟩ := pick_ok b i' h' [0, 9, 10] hb hi' (by decide) (by decide)
      exact ex_bind e2 (ex_now hi2)
    refine ex_ite (fun _ => ?_) (fun _ => ?_)
    · obtain ⟨y, i2, h2, e2, hi2⟩ := pick_ok b i' h' [(-1), 5, 6] hb hi' (by decide) (by decide)
      exact ex_bind e2 (ex_now hi2)
    refine ex_ite (fun _ => ?_) (fun _ => ex_now hi')
    obtain ⟨y, i2, h2, e2, hi2⟩ := pick_ok b i' h' [0, 5, 6] hb hi' (by decide) (by decide)
    exact ex_bind e2 (ex_now hi2)
  unfold spec_l14Any.f
  obtain ⟨⟨a0, a1, a2, a3, a4, a5, i1, h1⟩, e1, hi1⟩ := op_ok b i h 6 hb hi (by decide) (by decide)
  refine ex_bindE e1 ?_
  obtain ⟨z, i2, h2, e2, hi2⟩ := once_ok b i1 h1 3 hb hi1 (by decide) (by decide)
  refine ex_bind e2 ?_
  refine ex_ite (fun _ => ?_) (fun _ => j0 i2 h2 _ _ _ _ _ _ hi2)
  obtain ⟨x, i3, h3, e3, _, hi3⟩ := below_ok b i2 h2 7 hb hi2 (by decide) (by decide)
  refine ex_bind e3 ?_
  obtain ⟨y, i4, h4, e4, _, hi4⟩ := below_ok b i3 h3 4 hb hi3 (by decide) (by decide)
  refine ex_bind e4 ?_
  exact j0 i4 h4 _ _ _ _ _ _ hi4
theorem new_ok (b : List Int) (hb : b.length ≤ 1048576) : ∃ h, Ev (fun k => spec_l1New.f k b) (b, 0, h) := by
  have key : ∃ r, Ev (fun k => spec_l1New.l0 k b (wrap64 (10101 + (b.length : Int))) ((0 : Nat) : Int)) r ∧ ∃ h, r = (b, 0, h) := by
    refine ev_to (σ := Int) (fun s i k => spec_l1New.l0 k b s (i : Int)) b.length (fun _ _ => True) (fun r => ∃ h, r = (b, 0, h)) ?_ ?_ (wrap64 (10101 + (b.length : Int))) 0 (Nat.zero_le _) trivial
    · intro s i hi _ ih
      have h1 : (i : Int) < (b.length : Int) := by omega
      apply ex_succ
      simp only [spec_l1New.l0]
      rw [wrap_up hi (by omega)]
      exact ex_ite (fun _ => ex_ite (fun _ => ex_ite (fun _ => ih _ trivial) (fun c => absurd (Int.natCast_nonneg i) c)) (fun _ => ex_now ⟨_, rfl⟩)) (fun _ => ex_now ⟨_, rfl⟩)
    · intro s _
      apply ex_succ
      simp only [spec_l1New.l0]
      exact ex_ite (fun c => absurd c (Int.lt_irrefl _)) (fun _ => ex_now ⟨_, rfl⟩)
  obtain ⟨r, h, x, rfl⟩ := key
  exact ⟨x, h⟩
theorem program_ok (b : List Int) (i h a : Int) (hb : b.length ≤ 1048576) (hi : 0 ≤ i ∧ i ≤ (b.length : Int)) : ∃ r, Ev (fun k => spec_l17Program.f k b i h a) r ∧ (2 ≤ r.1.length ∧ r.1.length ≤ 6) ∧ (0 ≤ r.2.1 ∧ r.2.1 ≤ (b.length : Int)) := by
  have key : ∀ (m : Nat), m ≤ 4 → ∀ (xs : List S138) (i h : Int), (0 ≤ i ∧ i ≤ (b.length : Int)) → xs.length + m ≤ 10 → ∃ r, Ev (fun k => spec_l17Program.l0 k a xs (m : Int) b i h) r ∧ (xs.length + 1 ≤ r.1.length ∧ r.1.length ≤ xs.length + m + 1) ∧ (0 ≤ r.2.1 ∧ r.2.1 ≤ (b.length : Int)) := by
    intro m
    induction m with
    | zero =>
      intro _ xs i h hi hx
      apply ex_succ
      simp only [spec_l17Program.l0]
      refine ex_ite (fun c => absurd c (by simp)) (fun _ => ?_)
      obtain ⟨z, i2, h2, e2, hi2⟩ := once_ok b i h 10 hb hi (by decide) (by decide)
      refine ex_bind e2 ?_
      exact ex_ite (fun _ => ex_ite (fun _ => ex_now ⟨by simp, hi2⟩) (fun c => absurd (by omega) c)) (fun _ => ex_ite (fun _ => ex_now ⟨by simp, hi2⟩) (fun c => absurd (by omega) c))
    | succ m ih =>
      intro hm xs i h hi hx
      have hw : wrap64 (((m + 1 : Nat) : Int) - 1) = (m : Int) := by unfold wrap64; omega
      apply ex_succ
      simp only [spec_l17Program.l0]
      rw [hw]
      refine ex_ite (fun _ => ?_) (fun c => absurd (by omega) c)
      obtain ⟨⟨a0, a1, a2, a3, a4, a5, i1, h1⟩, e1, hi1⟩ := op_ok b i h 1 hb hi (by decide) (by decide)
      refine ex_bindE e1 ?_
      have go : ∀ ys : List S138, ys.length ≤ xs.length + 1 → xs.length ≤ ys.length → ∃ r, Ev (fun k => spec_l17Program.l0 k a ys (m : Int) b i1 h1) r ∧ (xs.length + 1 ≤ r.1.length ∧ r.1.length ≤ xs.length + (m + 1) + 1) ∧ (0 ≤ r.2.1 ∧ r.2.1 ≤ (b.length : Int)) := by
        intro ys hy hy2
        obtain ⟨r, e, hr, hr2⟩ := ih (by omega) ys i1 h1 hi1 (by omega)
        exact ⟨r, e, by omega, hr2⟩
      refine ex_ite (fun _ => go xs (by omega) (by omega)) (fun _ => ?_)
      refine ex_ite (fun _ => go xs (by omega) (by omega)) (fun _ => ?_)
      exact ex_ite (fun _ => go _ (by simp) (by simp)) (fun c => absurd (by omega) c)
  unfold spec_l17Program.f
  obtain ⟨x, i1, h1, e1, _, hi1⟩ := below_ok b i h 4 hb hi (by decide) (by decide)
  refine ex_bind e1 ?_
  obtain ⟨y, i2, h2, e2, hy, hi2⟩ := below_ok b i1 h1 4 hb hi1 (by decide) (by decide)
  refine ex_bind e2 ?_
  obtain ⟨m, hm⟩ : ∃ m : Nat, wrap64 (1 + y) = (m : Int) ∧ 1 ≤ m ∧ m ≤ 4 := ⟨(1 + y).toNat, by unfold wrap64; omega, by omega, by omega⟩
  obtain ⟨r, e, hr, hr2⟩ := key m hm.2.2 [(⟨1, a, wrap64 (1 + x), 0, 0, 0⟩ : S138)] i2 h2 hi2 (by simp; omega)
  refine ⟨r, ?_, ?_, hr2⟩
  · dsimp only
    rw [hm.1]; exact e
  · simp only [List.length_singleton] at hr; omega
theorem some_ok (b : List Int) (i h : Int) (hb : b.length ≤ 1048576) (hi : 0 ≤ i ∧ i ≤ (b.length : Int)) : ∃ r, Ev (fun k => spec_l17Some.f k b i h) r ∧ ((1 ≤ r.1.length ∧ r.1.length ≤ 5) ∧ ∀ e ∈ r.1, 2 ≤ e.length ∧ e.length ≤ 6) ∧ (0 ≤ r.2.1 ∧ r.2.1 ≤ (b.length : Int)) := by
  have key : ∀ (m : Nat), m ≤ 5 → ∀ (xs : List (List S138)) (i h : Int), (0 ≤ i ∧ i ≤ (b.length : Int)) → xs.length + m ≤ 5 → (∀ e ∈ xs, 2 ≤ e.length ∧ e.length ≤ 6) → ∃ r, Ev (fun k => spec_l17Some.l0 k xs (m : Int) b i h) r ∧ (r.1.length = xs.length + m ∧ ∀ e ∈ r.1, 2 ≤ e.length ∧ e.length ≤ 6) ∧ (0 ≤ r.2.1 ∧ r.2.1 ≤ (b.length : Int)) := by
    intro m
    induction m with
    | zero =>
      intro _ xs i h hi hx he
      apply ex_succ
      simp only [spec_l17Some.l0]
      exact ex_ite (fun c => absurd c (by simp)) (fun _ => ex_now ⟨⟨rfl, he⟩, hi⟩)
    | succ m ih =>
      intro hm xs i h hi hx he
      have hw : wrap64 (((m + 1 : Nat) : Int) - 1) = (m : Int) := by unfold wrap64; omega
      apply ex_succ
      simp only [spec_l17Some.l0]
      rw [hw]
      refine ex_ite (fun _ => ?_) (fun c => absurd (by omega) c)
      obtain ⟨⟨p, i1, h1⟩, e1, hp, hi1⟩ := program_ok b i h (wrap64 ((xs.length : Int) + 1)) hb hi
      refine ex_bindE e1 ?_
      refine ex_ite (fun _ => ?_) (fun c => absurd (by omega) c)
      obtain ⟨r, e, hr, hr2⟩ := ih (by omega) (xs ++ [p]) i1 h1 hi1 (by simp; omega) (fun e hm => by
        rcases List.mem_append.1 hm with hm | hm
        · exact he e hm
        · rw [List.mem_singleton] at hm; subst hm; exact hp)
      refine ⟨r, e, ⟨?_, hr.2⟩, hr2⟩
      have := hr.1
      rw [List.length_append, List.length_singleton] at this; omega
  unfold spec_l17Some.f
  obtain ⟨x, i1, h1, e1, hx, hi1⟩ := below_ok b i h 5 hb hi (by decide) (by decide)
  refine ex_bind e1 ?_
  obtain ⟨m, hm⟩ : ∃ m : Nat, wrap64 (1 + x) = (m : Int) ∧ 1 ≤ m ∧ m ≤ 5 := ⟨(1 + x).toNat, by unfold wrap64; omega, by omega, by omega⟩
  obtain ⟨r, e, hr, hr2⟩ := key m hm.2.2 [] i1 h1 hi1 (by simp; omega) (fun e he => absurd he (by simp))
  refine ⟨r, ?_, ⟨?_, hr.2⟩, hr2⟩
  · dsimp only
    rw [hm.1]; exact e
  · have := hr.1
    rw [List.length_nil] at this; omega
theorem programs_ok (b : List Int) (i h : Int) (hb : b.length ≤ 1048576) (hi : 0 ≤ i ∧ i ≤ (b.length : Int)) : ∃ r, Ev (fun k => spec_l17Any.f k b i h) r ∧ (r.1.length ≤ 6 ∧ ∀ e ∈ r.1, e.length ≤ 6) ∧ (0 ≤ r.2.1 ∧ r.2.1 ≤ (b.length : Int)) := by
  unfold spec_l17Any.f
  obtain ⟨⟨p, i1, h1⟩, e1, ⟨hp, hpe⟩, hi1⟩ := some_ok b i h hb hi
  dsimp only at hp hpe hi1
  refine ex_bindE e1 ?_
  obtain ⟨x, i2, h2, e2, hx, hi2⟩ := below_ok b i1 h1 14 hb hi1 (by decide) (by decide)
  refine ex_bind e2 ?_
  refine ex_ite (fun _ => ?_) (fun _ => ?_)
  · obtain ⟨⟨q, i3, h3⟩, e3, hq, hi3⟩ := program_ok b i2 h2 1 hb hi2
    refine ex_bindE e3 ?_
    refine ex_ite (fun _ => ex_now ⟨⟨?_, ?_⟩, hi3⟩) (fun c => absurd (by dsimp only; omega) c)
    · simp; omega
    · intro e hm
      rcases List.mem_append.1 hm with hm | hm
      · exact (hpe e hm).2
      · rw [List.mem_singleton] at hm; subst hm; exact hq.2
  refine ex_ite (fun _ => ?_) (fun _ => ex_now ⟨⟨by dsimp only; omega, fun e hm => (hpe e hm).2⟩, hi2⟩)
  have h0 : 0 < p.length := by omega
  have hr0 : rd_L2 p 0 = p[0] := by simp [rd_L2, h0]
  have hl0 := hpe _ (List.getElem_mem h0)
  refine ex_ite (fun _ => ?_) (fun c => absurd (by dsimp only; omega) c)
  refine ex_ite (fun _ => ?_) (fun c => absurd (by dsimp only; rw [hr0]; omega) c)
  refine ex_now ⟨⟨by simp; omega, ?_⟩, hi2⟩
  intro e hm
  rcases List.mem_or_eq_of_mem_set hm with hm | rfl
  · exact (hpe e hm).2
  · rw [List.length_drop, hr0]; omega
theorem merge_ok (b : List Int) (hb : b.length ≤ 1048576) : ∃ r, Ev (fun k => spec_DrawMergePrograms.f k b) r ∧ ((r.1.length ≤ 6 ∧ ∀ e ∈ r.1, e.length ≤ 6) ∧ r.2.length ≤ 30) := by
  have key : ∀ (p : List (List S138)), p.length ≤ 6 → ∀ (m : Nat), m ≤ 30 → ∀ (xs : List Int) (i h : Int), (0 ≤ i ∧ i ≤ (b.length : Int)) → xs.length + m ≤ 30 → ∃ r, Ev (fun k => spec_DrawMergePrograms.l0 k p xs (m : Int) b i h) r ∧ (r.1 = p ∧ r.2.length ≤ 30) := by
    intro p hp m
    induction m with
    | zero =>
      intro _ xs i h hi hx
      apply ex_succ
      simp only [spec_DrawMergePrograms.l0]
      exact ex_ite (fun c => absurd c (by simp)) (fun _ => ex_now ⟨rfl, by dsimp only; omega⟩)
    | succ m ih =>
      intro hm xs i h hi hx
      have hw : wrap64 (((m + 1 : Nat) : Int) - 1) = (m : Int) := by unfold wrap64; omega
      have hw2 : wrap64 ((p.length : Int) + 2) = (p.length : Int) + 2 := wrap_in (by omega) (by omega)
      apply ex_succ
      simp only [spec_DrawMergePrograms.l0]
      rw [hw, hw2]
      refine ex_ite (fun _ => ?_) (fun c => absurd (by omega) c)
      obtain ⟨x, i1, h1, e1, _, hi1⟩ := below_ok b i h ((p.length : Int) + 2) hb hi (by omega) (by omega)
      refine ex_bind e1 ?_
      refine ex_ite (fun _ => ?_) (fun c => absurd (by omega) c)
      exact ih (by omega) _ i1 h1 hi1 (by simp; omega)
  unfold spec_DrawMergePrograms.f
  obtain ⟨h0, e0⟩ := new_ok b hb
  refine ex_bindE e0 ?_
  obtain ⟨⟨p, i1, h1⟩, e1, hp, hi1⟩ := programs_ok b 0 h0 hb ⟨Int.le_refl _, by omega⟩
  dsimp only at hp hi1
  refine ex_bindE e1 ?_
  obtain ⟨x, i2, h2, e2, hx, hi2⟩ := below_ok b i1 h1 30 hb hi1 (by decide) (by decide)
  refine ex_bind e2 ?_
  obtain ⟨m, rfl⟩ := Int.eq_ofNat_of_zero_le hx.1
  obtain ⟨r, e, hr, hr2⟩ := key p hp.1 m (by omega) [] i2 h2 hi2 (by simp; omega)
  exact ⟨r, e, by rw [hr]; exact hp, hr2⟩
theorem isprog_ok (b : List Int) (hb : b.length ≤ 1048576) : ∃ r, Ev (fun k => spec_DrawIsProgram.f k b) r ∧ r.length ≤ 1048576 := by
  unfold spec_DrawIsProgram.f
  obtain ⟨h0, e0⟩ := new_ok b hb
  refine ex_bindE e0 ?_
  obtain ⟨x, i1, h1, e1, hx, hi1⟩ := below_ok b 0 h0 5 hb ⟨Int.le_refl _, by omega⟩ (by decide) (by decide)
  refine ex_bind e1 ?_
  obtain ⟨⟨p, i2, h2⟩, e2, hp, hi2⟩ := program_ok b i1 h1 (wrap64 (1 + x)) hb hi1
  dsimp only at hp hi2
  refine ex_bindE e2 ?_
  obtain ⟨y, i3, h3, e3, hy, hi3⟩ := below_ok b i2 h2 8 hb hi2 (by decide) (by decide)
  refine ex_bind e3 ?_
  refine ex_ite (fun _ => ?_) (fun _ => ?_)
  · refine ex_ite (fun _ => ex_now ?_) (fun c => absurd (by dsimp only; omega) c)
    rw [List.length_drop]; dsimp only; omega
  refine ex_ite (fun _ => ?_) (fun _ => ?_)
  · obtain ⟨r, e4, _⟩ := any_ok b i3 h3 hb hi3
    refine ex_bindE e4 ?_
    refine ex_ite (fun _ => ex_now ?_) (fun c => absurd (by dsimp only; omega) c)
    rw [List.length_append, List.length_singleton]; dsimp only; omega
  refine ex_ite (fun _ => ?_) (fun _ => ex_now (by dsimp only; omega))
  have hw : wrap64 ((p.length : Int) - 1) = (p.length : Int) - 1 := wrap_in (by omega) (by omega)
  dsimp only
  rw [hw]
  refine ex_ite (fun _ => ?_) (fun c => absurd (by omega) c)
  refine ex_ite (fun _ => ex_now ?_) (fun c => absurd (by omega) c)
  rw [List.length_set]; omega
theorem ev_EqualOps (l : List S138) (hl : l.length ≤ 1048576) : Ev (fun k => impl_EqualOps.f k l l) true := by
  have h : Ev (fun k => impl_Op.l0 k l l (l.length : Int) ((0 : Nat) : Int)) true := by
    refine ev_up (σ := Unit) (fun _ i k => impl_Op.l0 k l l (l.length : Int) (i : Int)) l.length (fun _ _ => True) (fun _ _ => true) ?_ ?_ () 0 (Nat.zero_le _) trivial
    · intro _ i hi _ ih
      have h1 : (i : Int) < (l.length : Int) := by omega
      apply Ev.succ
      simp only [impl_Op.l0, h1, Int.natCast_nonneg, if_true, beq_self_eq_true, Bool.not_true, Bool.or_false, Bool.false_eq_true, if_false, wrap_up hi (by omega)]
      exact ih () trivial
    · intro _ _
      apply Ev.succ
      simp only [impl_Op.l0, Int.lt_irrefl, if_false]; exact Ev.now _
  unfold impl_EqualOps.f impl_Op.f
  simp only [if_true]
  exact Ev.bind h (Ev.now _)
theorem both_MergePrograms (l : List (List S138)) (sc : List Int) (hl : l.length ≤ 1048576) (he : ∀ e ∈ l, e.length ≤ 1048576) (hs : sc.length ≤ 1048576) : ∃ r, Ev (fun k => spec_MergePrograms.f k l sc) r ∧ Ev (fun k => impl_MergePrograms.f k l sc) r ∧ r.length ≤ sc.length := by
  have h : ∃ r, Ev (fun k => spec_MergePrograms.l0 k l sc (List.replicate l.length 0) [] ((0 : Nat) : Int)) r ∧ Ev (fun k => impl_MergePrograms.l0 k l [] (List.replicate l.length 0) sc (sc.length : Int) ((0 : Nat) : Int)) r ∧ r.length ≤ sc.length := by
    refine ev_both (σ := List Int × List S138) (τ := List Int × List S138) (fun s i k => spec_MergePrograms.l0 k l sc s.1 s.2 (i : Int)) (fun s i k => impl_MergePrograms.l0 k l s.2 s.1 sc (sc.length : Int) (i : Int)) sc.length (fun s t i => s = t ∧ s.1.length = l.length ∧ (∀ x ∈ s.1, 0 ≤ x ∧ x ≤ 1048576) ∧ s.2.length ≤ i) (fun r => r.length ≤ sc.length) ?_ ?_ (List.replicate l.length 0, []) (List.replicate l.length 0, []) 0 (Nat.zero_le _) ⟨rfl, by simp, fun x hx => by rw [List.eq_of_mem_replicate hx]; omega, by simp⟩
    · rintro ⟨at_, out⟩ _ i hi ⟨rfl, hlen, hat, hout⟩ ih
      dsimp only at hlen hat hout ih ⊢
      have h1 : (i : Int) < (sc.length : Int) := by omega
      have e0 := wrap_up hi (by omega)
      have ew : wrap64 ((l.length : Int) - 1) = (l.length : Int) - 1 := wrap_in (by omega) (by omega)
      obtain ⟨v, hv⟩ : ∃ v, v = rd sc (i : Int) := ⟨_, rfl⟩
      by_cases c0 : 0 ≤ v
      · by_cases c1 : v ≤ (l.length : Int) - 1
        · obtain ⟨m, rfl⟩ := Int.eq_ofNat_of_zero_le c0
          have hm : m < l.length := by omega
          have hma : m < at_.length := by omega
          have g1 : (m : Int) < (at_.length : Int) := by omega
          have g2 : (m : Int) < (l.length : Int) := by omega
          have hr : rd at_ (m : Int) = at_[m] := by simp [rd, hma]
          obtain ⟨x0, x1⟩ := hat _ (List.getElem_mem hma)
          have hL : rd_L2 l (m : Int) = l[m] := by simp [rd_L2, hm]
          have hel := he _ (List.getElem_mem hm)
          by_cases c2 : at_[m] < (l[m].length : Int)
          · have g3 : out.length < 2932031007402 := by omega
            have ew2 : wrap64 (at_[m] + 1) = at_[m] + 1 := wrap_in (by omega) (by omega)
            obtain ⟨r, es, et, hR⟩ := ih (at_.set m (at_[m] + 1), out ++ [rd_T138 l[m] at_[m]]) _ ⟨rfl, by dsimp only; rw [List.length_set]; exact hlen, fun x hx => by
              rcases List.mem_or_eq_of_mem_set hx with hx | rfl
              · exact hat x hx
              · omega, by dsimp only; rw [List.length_append, List.length_singleton]; omega⟩
            dsimp only at es et
            refine ⟨r, Ev.succ ?_, Ev.succ ?_, hR⟩
            · simp only [spec_MergePrograms.l0, l1In_eq, ew, h1, ← hv, c0, c1, g1, g2, g3, hr, hL, x0, c2, e0, ew2, Int.natCast_nonneg, Int.toNat_natCast, decide_true, Bool.and_self, if_true, Option.bind_some]; exact es
            · simp only [impl_MergePrograms.l0, in_eq, ew, h1, ← hv, c0, c1, g1, g2, g3, hr, hL, x0, c2, e0, ew2, Int.natCast_nonneg, Int.toNat_natCast, decide_true, Bool.and_self, if_true, Option.bind_some]; exact et
          · obtain ⟨r, es, et, hR⟩ := ih (at_, out) _ ⟨rfl, hlen, hat, by dsimp only; omega⟩
            dsimp only at es et
            refine ⟨r, Ev.succ ?_, Ev.succ ?_, hR⟩
            · simp only [spec_MergePrograms.l0, l1In_eq, ew, h1, ← hv, c0, c1, g1, g2, hr, hL, c2, e0, Int.natCast_nonneg, decide_true, Bool.and_self, if_true, if_false, Option.bind_some]; exact es
            · simp only [impl_MergePrograms.l0, in_eq, ew, h1, ← hv, c0, c1, g1, g2, hr, hL, c2, e0, Int.natCast_nonneg, decide_true, Bool.and_self, if_true, if_false, Option.bind_some]; exact et
        · obtain ⟨r, es, et, hR⟩ := ih (at_, out) _ ⟨rfl, hlen, hat, by dsimp only; omega⟩
          dsimp only at es et
          refine ⟨r, Ev.succ ?_, Ev.succ ?_, hR⟩
          · simp only [spec_MergePrograms.l0, l1In_eq, ew, h1, ← hv, c1, e0, Int.natCast_nonneg, decide_false, Bool.and_false, Bool.false_eq_true, if_true, if_false, Option.bind_some]; exact es
          · simp only [impl_MergePrograms.l0, in_eq, ew, h1, ← hv, c1, e0, Int.natCast_nonneg, decide_false, Bool.and_false, Bool.false_eq_true, if_true, if_false, Option.bind_some]; exact et
      · obtain ⟨r, es, et, hR⟩ := ih (at_, out) _ ⟨rfl, hlen, hat, by dsimp only; omega⟩
        dsimp only at es et
        refine ⟨r, Ev.succ ?_, Ev.succ ?_, hR⟩
        · simp only [spec_MergePrograms.l0, l1In_eq, ew, h1, ← hv, c0, e0, Int.natCast_nonneg, decide_false, Bool.false_and, Bool.false_eq_true, if_true, if_false, Option.bind_some]; exact es
        · simp only [impl_MergePrograms.l0, in_eq, ew, h1, ← hv, c0, e0, Int.natCast_nonneg, decide_false, Bool.false_and, Bool.false_eq_true, if_true, if_false, Option.bind_some]; exact et
    · rintro ⟨at_, out⟩ _ ⟨rfl, hlen, hat, hout⟩
      dsimp only at hout ⊢
      refine ⟨out, Ev.succ ?_, Ev.succ ?_, by omega⟩ <;> (simp only [spec_MergePrograms.l0, impl_MergePrograms.l0, Int.lt_irrefl, if_false]; exact Ev.now _)
  obtain ⟨r, h1, h2, h3⟩ := h
  have hc : l.length ≤ 35184372088832 := by omega
  refine ⟨r, ?_, ?_, h3⟩
  · unfold spec_MergePrograms.f
    simp only [Int.natCast_nonneg, Int.toNat_natCast, hc, if_true]; exact h1
  · unfold impl_MergePrograms.f
    simp only [Int.natCast_nonneg, Int.toNat_natCast, hc, if_true]; exact h2
theorem both_IsProgram (l : List S138) (hl : l.length ≤ 1048576) : ∃ r, Ev (fun k => spec_IsProgram.f k l) r ∧ Ev (fun k => impl_IsProgram.f k l) r := by
  have h : ∃ x y, Ev (fun k => impl_IsProgram.l0 k l l (l.length : Int) ((0 : Nat) : Int)) x ∧ Ev (fun k => spec_IsProgram.l0 k l ((0 : Nat) : Int)) y ∧ y = (x && (decide (2 ≤ (l.length : Int)) && decide ((l.length : Int) ≤ 12))) := by
    refine ev_two (σ := Unit) (τ := Unit) (fun _ i k => impl_IsProgram.l0 k l l (l.length : Int) (i : Int)) (fun _ i k => spec_IsProgram.l0 k l (i : Int)) l.length (fun _ _ _ => True) (fun x y => y = (x && (decide (2 ≤ (l.length : Int)) && decide ((l.length : Int) ≤ 12)))) ?_ ?_ () () 0 (Nat.zero_le _) trivial
    · intro _ _ i hi _ ih
      have h1 : (i : Int) < (l.length : Int) := by omega
      have h0 : (0 : Int) < (l.length : Int) := by omega
      have e0 := wrap_up hi (by omega)
      obtain ⟨x, y, hx, hy, rfl⟩ := ih () () trivial
      have iT : Ev (fun k => impl_IsProgram.j2 k l (i : Int) l (l.length : Int) true) false := Ev.succ (by simp only [impl_IsProgram.j2, if_true]; exact Ev.now _)
      have sT : Ev (fun k => spec_IsProgram.j2 k l (i : Int) true) false := Ev.succ (by simp only [spec_IsProgram.j2, if_true]; exact Ev.now _)
      have iF : Ev (fun k => impl_IsProgram.j2 k l (i : Int) l (l.length : Int) false) x := Ev.succ (by simp only [impl_IsProgram.j2, Bool.false_eq_true, if_false, e0]; exact hx)
      have sF : Ev (fun k => spec_IsProgram.j2 k l (i : Int) false) (x && (decide (2 ≤ (l.length : Int)) && decide ((l.length : Int) ≤ 12))) := Ev.succ (by simp only [spec_IsProgram.j2, Bool.false_eq_true, if_false, e0]; exact hy)
      obtain ⟨b, eS, eI⟩ := both_IsValidOp (rd_T138 l (i : Int)).f0 (rd_T138 l (i : Int)).f1 (rd_T138 l (i : Int)).f2 (rd_T138 l (i : Int)).f3 (rd_T138 l (i : Int)).f4 (rd_T138 l (i : Int)).f5
      have j : ∀ lb : Bool, ∃ x y, Ev (fun k => impl_IsProgram.j1 k l (i : Int) lb l (l.length : Int) (rd_T138 l (i : Int)).f0 (rd_T138 l (i : Int)).f1 (rd_T138 l (i : Int)).f2 (rd_T138 l (i : Int)).f3 (rd_T138 l (i : Int)).f4 (rd_T138 l (i : Int)).f5) x ∧ Ev (fun k => spec_IsProgram.j1 k l (i : Int) lb) y ∧ y = (x && (decide (2 ≤ (l.length : Int)) && decide ((l.length : Int) ≤ 12))) := by
        intro lb
        cases b
        · refine ⟨false, false, Ev.succ ?_, Ev.succ ?_, by simp⟩
          · simp only [impl_IsProgram.j1]
            refine Ev.bind eI ?_
            simp only [Bool.false_eq_true, if_false]; exact iT
          · simp only [spec_IsProgram.j1, h1, Int.natCast_nonneg, if_true]
            refine Ev.bind eS ?_
            simp only [Bool.false_eq_true, if_false]; exact sT
        · by_cases c : (rd_T138 l (i : Int)).f1 = (rd_T138 l 0).f1
          rotate_left 1
          · refine ⟨false, false, Ev.succ ?_, Ev.succ ?_, by simp⟩
            · simp only [impl_IsProgram.j1]
              refine Ev.bind eI ?_
              simp only [h0, c, if_true, if_false]; exact iT
            · simp only [spec_IsProgram.j1, h1, Int.natCast_nonneg, if_true]
              refine Ev.bind eS ?_
              simp only [h0, c, if_true, if_false]; exact sT
          by_cases d : (((rd_T138 l (i : Int)).f0 == 1) != ((i : Int) == 0)) = true
          · refine ⟨false, false, Ev.succ ?_, Ev.succ ?_, by simp⟩
            · simp only [impl_IsProgram.j1]
              refine Ev.bind eI ?_
              simp only [h0, c, d, if_true]; exact iT
            · simp only [spec_IsProgram.j1, h1, Int.natCast_nonneg, if_true]
              refine Ev.bind eS ?_
              simp only [h0, c, d, if_true]; exact sT
          cases hb : (lb != ((i : Int) == wrap64 ((l.length : Int) - 1)))
          · refine ⟨x, _, Ev.succ ?_, Ev.succ ?_, rfl⟩
            · simp only [impl_IsProgram.j1]
              refine Ev.bind eI ?_
              simp only [h0, c, d, hb, if_true, if_false]; exact iF
            · simp only [spec_IsProgram.j1, h1, Int.natCast_nonneg, if_true]
              refine Ev.bind eS ?_
              simp only [h0, c, d, hb, if_true, if_false]; exact sF
          · refine ⟨false, false, Ev.succ ?_, Ev.succ ?_, by simp⟩
            · simp only [impl_IsProgram.j1]
              refine Ev.bind eI ?_
              simp only [h0, c, d, hb, if_true, if_false]; exact iT
            · simp only [spec_IsProgram.j1, h1, Int.natCast_nonneg, if_true]
              refine Ev.bind eS ?_
              simp only [h0, c, d, hb, if_true, if_false]; exact sT
      by_cases c5 : (rd_T138 l (i : Int)).f0 = 5
      · obtain ⟨x', y', g1, g2, g3⟩ := j true
        refine ⟨x', y', Ev.succ ?_, Ev.succ ?_, g3⟩
        · simp only [impl_IsProgram.l0, h1, c5, Int.natCast_nonneg, if_true]
          rw [c5] at g1; exact g1
        · simp only [spec_IsProgram.l0, h1, c5, Int.natCast_nonneg, if_true]; exact g2
      · obtain ⟨x', y', g1, g2, g3⟩ := j ((rd_T138 l (i : Int)).f0 == 6)
        refine ⟨x', y', Ev.succ ?_, Ev.succ ?_, g3⟩
        · simp only [impl_IsProgram.l0, h1, c5, Int.natCast_nonneg, if_true, if_false]; exact g1
        · simp only [spec_IsProgram.l0, h1, c5, Int.natCast_nonneg, if_true, if_false]; exact g2
    · intro _ _ _
      refine ⟨true, _, Ev.succ ?_, Ev.succ ?_, (Bool.true_and _).symm⟩
      · simp only [impl_IsProgram.l0, Int.lt_irrefl, if_false]; exact Ev.now _
      · simp only [spec_IsProgram.l0, Int.lt_irrefl, if_false, l1In_eq, Option.bind_some]; exact Ev.now _
  obtain ⟨x, y, hx, hy, rfl⟩ := h
  refine ⟨_, hy, ?_⟩
  unfold impl_IsProgram.f
  simp only [in_eq, Option.bind_some]
  cases (decide (2 ≤ (l.length : Int)) && decide ((l.length : Int) ≤ 12))
  · simp only [Bool.false_eq_true, if_false, Bool.and_false]; exact Ev.now _
  · simp only [if_true, Bool.and_true]; exact hx
theorem FnMerges : laws_FnMerges.Pure := by
  intro b _ _ _
  apply Ev.rounds
  unfold laws_FnMerges.f laws_big.f
  simp only [Option.bind_some]
  by_cases h : (b.length : Int) > 1048576
  · simp only [h, decide_true, if_true]; exact Ev.now _
  have hb : b.length ≤ 1048576 := by omega
  simp only [h, decide_false, Bool.false_eq_true, if_false]
  obtain ⟨⟨p, sc⟩, e1, ⟨hp, hpe⟩, hsc⟩ := merge_ok b hb
  dsimp only at hp hpe hsc
  obtain ⟨r, e2, e3, hr⟩ := both_MergePrograms p sc (by omega) (fun e he => by have := hpe e he; omega) (by omega)
  refine Ev.bind e1 (Ev.bind e3 (Ev.bind e2 (Ev.bind (ev_EqualOps r (by omega)) ?_)))
  have hd : decide ((r.length : Int) > (sc.length : Int)) = false := decide_eq_false (by omega)
  simp only [if_true, hd]
  apply Ev.succ
  simp only [laws_FnMerges.j0, Bool.false_eq_true, if_false]
  obtain ⟨q, e4, hq⟩ := isprog_ok b hb
  obtain ⟨v, e5, e6⟩ := both_IsProgram q hq
  refine Ev.bind e4 (Ev.bind e6 (Ev.bind e5 ?_))
  exact Ev.some (by simp)

end Go.Proofs.Ytpiaeinfneoioaa.Pure
