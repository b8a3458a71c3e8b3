/- The plain statement of FnOps: what is drawn ends; an operation's text is read back if the operation is valid, a row's text gives the row, and the elements of transactions 1 to 9 are counted alike. Condition: the code's length is at most maxLen. -/
import Derived.Test.YtdfbmaiboadodaaDoorPFnOpsx13
import Derived.Test.YtdfbmaiboadodaaDoorPlainT
import Derived.Test.YtdfbmaiboadodaaDoorChkA
import Derived.Test.YtdfbmaiboadodaaDoorChk0
import Derived.Test.YtdfbmaiboadodaaDoorChk1
import Derived.Test.YtdfbmaiboadodaaDoorChk2
import Derived.Test.YtdfbmaiboadodaaDoorChk3
import Derived.Test.YtdfbmaiboadodaaDoorChk4
import Derived.Test.YtdfbmaiboadodaaDoorChk5
namespace Go.Proofs.YtdfbmaiboadodaaDoor.Pure
open Go.RowKit Go.Proofs.YtdfbmaiboadodaaDoor.PFnOps Go.Proofs.YtdfbmaiboadodaaDoorW.PrintWords Go.Proofs.YtdfbmaiboadodaaDoorW.PrintLast Go.Proofs.YtdfbmaiboadodaaDoor.Plain
set_option linter.unusedVariables false
set_option linter.unusedSimpArgs false


theorem l1In_eq (a b c : Int) : spec_l1In.f a b c = some (decide (b ≤ a) && decide (a ≤ c)) := by
  by_cases h : b ≤ a <;> simp [spec_l1In.f, h]
theorem in_eq (a b c : Int) : impl_in.f a b c = some (decide (b ≤ a) && decide (a ≤ c)) := by
  by_cases h : b ≤ a <;> simp [impl_in.f, h]
set_option maxHeartbeats 8000000 in
theorem both_IsValidOp3 (a0 a1 a2 a3 a4 a5 : Int) : ∃ b, spec_IsValidOp.f 3 a0 a1 a2 a3 a4 a5 = some b ∧ impl_IsValidOp.f 3 a0 a1 a2 a3 a4 a5 = some b ∧ (b = true → (1 ≤ a1 ∧ a1 ≤ 9 ∧ 1 ≤ a0 ∧ a0 ≤ 6 ∧ (a0 = 1 → 1 ≤ a2 ∧ a2 ≤ 4) ∧ (a0 = 2 ∨ a0 = 3 ∨ a0 = 4 → 0 ≤ a3 ∧ a3 ≤ 5) ∧ (a0 = 3 → -1 ≤ a5 ∧ a5 ≤ 99) ∧ (a0 = 4 → a3 ≤ a4 ∧ a4 ≤ 5) ∧ (a0 = 1 ∨ a2 = 0) ∧ (a0 = 2 ∨ a0 = 3 ∨ a0 = 4 ∨ a3 = 0) ∧ (a0 = 4 ∨ a4 = 0) ∧ (a0 = 3 ∨ a5 = 0))) := by
  by_cases c1 : a0 = 1
  · subst c1
    by_cases h3 : a3 = 0 <;> by_cases h4 : a4 = 0 <;> by_cases h5 : a5 = 0 <;> by_cases h1 : 1 ≤ a1 <;> by_cases h1' : a1 ≤ 9 <;> by_cases h2 : 1 ≤ a2 <;> by_cases h2' : a2 ≤ 4 <;>
      simp [spec_IsValidOp.f, impl_IsValidOp.f, spec_IsValidOp.j1, spec_IsValidOp.j2, impl_IsValidOp.j0, impl_isID.f, impl_isScheme.f, l1In_eq, in_eq, h3, h4, h5, h1, h1', h2, h2', eq_comm (a := (0 : Int))]
  by_cases c2 : a0 = 2
  · subst c2
    by_cases h3 : a2 = 0 <;> by_cases h4 : a4 = 0 <;> by_cases h5 : a5 = 0 <;> by_cases h1 : 1 ≤ a1 <;> by_cases h1' : a1 ≤ 9 <;> by_cases h2 : 0 ≤ a3 <;> by_cases h2' : a3 ≤ 5 <;>
      simp [spec_IsValidOp.f, impl_IsValidOp.f, spec_IsValidOp.j1, spec_IsValidOp.j2, impl_IsValidOp.j0, impl_isID.f, impl_isKey.f, l1In_eq, in_eq, h3, h4, h5, h1, h1', h2, h2', eq_comm (a := (0 : Int))]
  by_cases c3 : a0 = 3
  · subst c3
    by_cases h3 : a2 = 0 <;> by_cases h4 : a4 = 0 <;> by_cases h1 : 1 ≤ a1 <;> by_cases h1' : a1 ≤ 9 <;> by_cases h2 : 0 ≤ a3 <;> by_cases h2' : a3 ≤ 5 <;> by_cases h6 : -1 ≤ a5 <;> by_cases h6' : a5 ≤ 99 <;>
      simp [spec_IsValidOp.f, impl_IsValidOp.f, spec_IsValidOp.j1, spec_IsValidOp.j2, impl_IsValidOp.j0, impl_isID.f, impl_isKey.f, impl_isValue.f, l1In_eq, in_eq, h3, h4, h1, h1', h2, h2', h6, h6', eq_comm (a := (0 : Int))]
  by_cases c4 : a0 = 4
  · subst c4
    by_cases h3 : a2 = 0 <;> by_cases h5 : a5 = 0 <;> by_cases h1 : 1 ≤ a1 <;> by_cases h1' : a1 ≤ 9 <;> by_cases h2 : 0 ≤ a3 <;> by_cases h2' : a3 ≤ 5 <;> by_cases h6 : a3 ≤ a4 <;> by_cases h6' : a4 ≤ 5 <;>
      simp [spec_IsValidOp.f, impl_IsValidOp.f, spec_IsValidOp.j1, spec_IsValidOp.j2, impl_IsValidOp.j0, impl_isID.f, impl_isKey.f, l1In_eq, in_eq, h3, h5, h1, h1', h2, h2', h6, h6', eq_comm (a := (0 : Int))]
  by_cases c5 : a0 = 5
  · subst c5
    by_cases h2 : a2 = 0 <;> by_cases h3 : a3 = 0 <;> by_cases h4 : a4 = 0 <;> by_cases h5 : a5 = 0 <;> by_cases h1 : 1 ≤ a1 <;> by_cases h1' : a1 ≤ 9 <;>
      simp [spec_IsValidOp.f, impl_IsValidOp.f, spec_IsValidOp.j1, spec_IsValidOp.j2, spec_IsValidOp.j0, impl_IsValidOp.j0, impl_isID.f, impl_isKey.f, l1In_eq, in_eq, h2, h3, h4, h5, h1, h1', eq_comm (a := (0 : Int))]
  by_cases c6 : a0 = 6
  · subst c6
    by_cases h2 : a2 = 0 <;> by_cases h3 : a3 = 0 <;> by_cases h4 : a4 = 0 <;> by_cases h5 : a5 = 0 <;> by_cases h1 : 1 ≤ a1 <;> by_cases h1' : a1 ≤ 9 <;>
      simp [spec_IsValidOp.f, impl_IsValidOp.f, spec_IsValidOp.j1, spec_IsValidOp.j2, spec_IsValidOp.j0, impl_IsValidOp.j0, impl_isID.f, impl_isKey.f, l1In_eq, in_eq, h2, h3, h4, h5, h1, h1', eq_comm (a := (0 : Int))]
  · have hk : (decide (1 ≤ a0) && decide (a0 ≤ 6)) = false := by
      by_cases d1 : 1 ≤ a0 <;> by_cases d2 : a0 ≤ 6 <;> simp [d1, d2] <;> omega
    simp [spec_IsValidOp.f, impl_IsValidOp.f, spec_IsValidOp.j0, impl_IsValidOp.j0, in_eq, c1, c2, c3, c4, c5, c6, hk]
theorem both_IsValidOp (a0 a1 a2 a3 a4 a5 : Int) : ∃ b, Ev (fun k => spec_IsValidOp.f k a0 a1 a2 a3 a4 a5) b ∧ Ev (fun k => impl_IsValidOp.f k a0 a1 a2 a3 a4 a5) b ∧ (b = true → (1 ≤ a1 ∧ a1 ≤ 9 ∧ 1 ≤ a0 ∧ a0 ≤ 6 ∧ (a0 = 1 → 1 ≤ a2 ∧ a2 ≤ 4) ∧ (a0 = 2 ∨ a0 = 3 ∨ a0 = 4 → 0 ≤ a3 ∧ a3 ≤ 5) ∧ (a0 = 3 → -1 ≤ a5 ∧ a5 ≤ 99) ∧ (a0 = 4 → a3 ≤ a4 ∧ a4 ≤ 5) ∧ (a0 = 1 ∨ a2 = 0) ∧ (a0 = 2 ∨ a0 = 3 ∨ a0 = 4 ∨ a3 = 0) ∧ (a0 = 4 ∨ a4 = 0) ∧ (a0 = 3 ∨ a5 = 0))) := by
  obtain ⟨b, h1, h2, h3⟩ := both_IsValidOp3 a0 a1 a2 a3 a4 a5
  exact ⟨b, Ev.of (spec_IsValidOp.mono _ _ _ _ _ _) h1, Ev.of (impl_IsValidOp.mono _ _ _ _ _ _) h2, h3⟩
theorem ex_succ {α : Type} {g : Nat → Option α} {P : α → Prop} (h : ∃ r, Ev (fun k => g (k + 1)) r ∧ P r) : ∃ r, Ev g r ∧ P r := by
  obtain ⟨r, a, b⟩ := h
  exact ⟨r, Ev.succ a, b⟩
theorem ex_ite {α : Type} {c : Prop} [Decidable c] {f g : Nat → Option α} {P : α → Prop} (h1 : c → ∃ r, Ev f r ∧ P r) (h2 : ¬ c → ∃ r, Ev g r ∧ P r) : ∃ r, Ev (fun k => if c then f k else g k) r ∧ P r := by
  by_cases h : c
  · simpa only [if_pos h] using h1 h
  · simpa only [if_neg h] using h2 h
theorem ex_now {α : Type} {x : α} {P : α → Prop} (h : P x) : ∃ r, Ev (fun _ => some x) r ∧ P r := ⟨x, Ev.now _, h⟩
theorem ex_bind {α β : Type} {x : Option α} {a : α} (e : x = some a) {g : Nat → α → Option β} {P : β → Prop} (h : ∃ r, Ev (fun k => g k a) r ∧ P r) : ∃ r, Ev (fun k => x.bind (g k)) r ∧ P r := by
  subst e; exact h
theorem ex_bindE {α β : Type} {f : Nat → Option α} {a : α} (e : Ev f a) {g : Nat → α → Option β} {P : β → Prop} (h : ∃ r, Ev (fun k => g k a) r ∧ P r) : ∃ r, Ev (fun k => (f k).bind (g k)) r ∧ P r := by
  obtain ⟨r, h1, h2⟩ := h
  exact ⟨r, Ev.bind e h1, h2⟩
theorem and255 (x : Int) : 0 ≤ Go.bits .and .i64 x 255 ∧ Go.bits .and .i64 x 255 ≤ 255 := by
  have h : Go.bits .and .i64 x 255 = IntKind.i64.wrap (((BitVec.ofInt 64 x &&& BitVec.ofInt 64 255).toNat : Nat) : Int) := rfl
  rw [h, BitVec.toNat_and, show (BitVec.ofInt 64 255).toNat = 255 from by decide]
  have h3 : (BitVec.ofInt 64 x).toNat &&& 255 ≤ 255 := Nat.and_le_right
  rw [IntKind.wrap_i64]; omega
theorem byte_ok (b : List Int) (i h : Int) (hb : b.length ≤ 1048576) (hi : 0 ≤ i ∧ i ≤ (b.length : Int)) : ∃ x i' h', spec_l1Byte.f b i h = some (x, i', h') ∧ (0 ≤ x ∧ x ≤ 255) ∧ (0 ≤ i' ∧ i' ≤ (b.length : Int)) := by
  unfold spec_l1Byte.f
  by_cases c : i < (b.length : Int)
  · have hw : wrap64 (i + 1) = i + 1 := wrap_in (by omega) (by omega)
    rw [if_pos c, if_pos hi.1, hw]
    exact ⟨_, _, _, rfl, and255 _, by omega, by omega⟩
  · rw [if_neg c]
    exact ⟨_, _, _, rfl, and255 _, hi⟩
theorem below_ok (b : List Int) (i h n : Int) (hb : b.length ≤ 1048576) (hi : 0 ≤ i ∧ i ≤ (b.length : Int)) (hn : 1 ≤ n) (hn' : n ≤ 256) : ∃ x i' h', spec_l1Below.f b i h n = some (x, i', h') ∧ (0 ≤ x ∧ x < n) ∧ (0 ≤ i' ∧ i' ≤ (b.length : Int)) := by
  obtain ⟨x, i', h', e, hx, hi'⟩ := byte_ok b i h hb hi
  have c0 : ¬ n ≤ 0 := by omega
  have c2 : ¬ n = 0 := by omega
  refine ⟨Int.tmod x n, i', h', ?_, ⟨Int.tmod_nonneg n hx.1, Int.tmod_lt_of_pos x (by omega)⟩, hi'⟩
  unfold spec_l1Below.f
  rw [if_neg c0, if_pos hn', e]
  show (if n = 0 then none else some (Int.tmod x n, i', h')) = _
  rw [if_neg c2]
theorem once_ok (b : List Int) (i h n : Int) (hb : b.length ≤ 1048576) (hi : 0 ≤ i ∧ i ≤ (b.length : Int)) (hn : 1 ≤ n) (hn' : n ≤ 256) : ∃ x i' h', spec_l1Once.f b i h n = some (x, i', h') ∧ (0 ≤ i' ∧ i' ≤ (b.length : Int)) := by
  obtain ⟨x, i', h', e, hx, hi'⟩ := below_ok b i h n hb hi hn hn'
  refine ⟨x == 0, i', h', ?_, hi'⟩
  unfold spec_l1Once.f
  rw [e]; rfl
theorem pick_ok (b : List Int) (i h : Int) (l : List Int) (hb : b.length ≤ 1048576) (hi : 0 ≤ i ∧ i ≤ (b.length : Int)) (hn : 1 ≤ (l.length : Int)) (hn' : (l.length : Int) ≤ 256) : ∃ x i' h', spec_l1PickInt.f b i h l = some (x, i', h') ∧ (0 ≤ i' ∧ i' ≤ (b.length : Int)) := by
  obtain ⟨x, i', h', e, hx, hi'⟩ := below_ok b i h (l.length : Int) hb hi hn hn'
  refine ⟨rd l x, i', h', ?_, hi'⟩
  unfold spec_l1PickInt.f
  rw [e]
  show (if 0 ≤ x then (if x < (l.length : Int) then some (rd l x, i', h') else none) else none) = _
  rw [if_pos hx.1, if_pos hx.2]
theorem op_j2 (b : List Int) (i h x5 x6 x18 : Int) (t : Bool) (hb : b.length ≤ 1048576) (hi : 0 ≤ i ∧ i ≤ (b.length : Int)) (h6 : 0 ≤ x6 ∧ x6 ≤ 5) : ∃ r, Ev (fun k => spec_l14Op.j2 k x5 x6 x18 t b i h) r ∧ ((0 ≤ r.2.2.2.2.2.2.1 ∧ r.2.2.2.2.2.2.1 ≤ (b.length : Int)) ∧ r.2.1 = x5) := by
  apply ex_succ
  simp only [spec_l14Op.j2]
  refine ex_ite (fun _ => ?_) (fun _ => ?_)
  · obtain ⟨x, i', h', e, hi'⟩ := pick_ok b i h [(-1), 1, 5, 10, 20] hb hi (by decide) (by decide)
    exact ex_bind e (ex_now ⟨hi', rfl⟩)
  refine ex_ite (fun _ => ?_) (fun _ => ?_)
  · have hw : wrap64 (6 - x6) = 6 - x6 := wrap_in (by omega) (by omega)
    obtain ⟨x, i', h', e, _, hi'⟩ := below_ok b i h (6 - x6) hb hi (by omega) (by omega)
    rw [hw]
    exact ex_bind e (ex_now ⟨hi', rfl⟩)
  refine ex_ite (fun _ => ?_) (fun _ => ?_)
  · obtain ⟨x, i', h', e, hi'⟩ := once_ok b i h 3 hb hi (by decide) (by decide)
    refine ex_bind e ?_
    exact ex_ite (fun _ => ex_now ⟨hi', rfl⟩) (fun _ => ex_now ⟨hi', rfl⟩)
  · exact ex_now ⟨hi, rfl⟩
theorem op_j1 (b : List Int) (i h x5 x6 x18 : Int) (t : Bool) (hb : b.length ≤ 1048576) (hi : 0 ≤ i ∧ i ≤ (b.length : Int)) (h6 : 0 ≤ x6 ∧ x6 ≤ 5) : ∃ r, Ev (fun k => spec_l14Op.j1 k x5 x6 x18 t b i h) r ∧ ((0 ≤ r.2.2.2.2.2.2.1 ∧ r.2.2.2.2.2.2.1 ≤ (b.length : Int)) ∧ r.2.1 = x5) := by
  apply ex_succ
  simp only [spec_l14Op.j1]
  refine ex_ite (fun _ => ex_now ⟨hi, rfl⟩) (fun _ => ?_)
  refine ex_ite (fun _ => op_j2 b i h x5 x6 x18 _ hb hi h6) (fun _ => ?_)
  refine ex_ite (fun _ => op_j2 b i h x5 x6 x18 _ hb hi h6) (fun _ => ?_)
  exact ex_ite (fun _ => op_j2 b i h x5 x6 x18 _ hb hi h6) (fun _ => op_j2 b i h x5 x6 x18 _ hb hi h6)
theorem op_j0 (b : List Int) (i h x5 x6 : Int) (hb : b.length ≤ 1048576) (hi : 0 ≤ i ∧ i ≤ (b.length : Int)) (h6 : 0 ≤ x6 ∧ x6 ≤ 5) : ∃ r, Ev (fun k => spec_l14Op.j0 k x5 x6 b i h) r ∧ ((0 ≤ r.2.2.2.2.2.2.1 ∧ r.2.2.2.2.2.2.1 ≤ (b.length : Int)) ∧ r.2.1 = x5) := by
  apply ex_succ
  simp only [spec_l14Op.j0]
  obtain ⟨x, i', h', e, _, hi'⟩ := below_ok b i h 12 hb hi (by decide) (by decide)
  refine ex_bind e ?_
  refine ex_ite (fun _ => op_j1 b i' h' x5 x6 x _ hb hi' h6) (fun _ => ?_)
  refine ex_ite (fun _ => op_j1 b i' h' x5 x6 x _ hb hi' h6) (fun _ => ?_)
  exact ex_ite (fun _ => op_j1 b i' h' x5 x6 x _ hb hi' h6) (fun _ => op_j1 b i' h' x5 x6 x _ hb hi' h6)
theorem op_ok (b : List Int) (i h n : Int) (hb : b.length ≤ 1048576) (hi : 0 ≤ i ∧ i ≤ (b.length : Int)) (hn : 1 ≤ n) (hn' : n ≤ 256) : ∃ r, Ev (fun k => spec_l14Op.f k b i h n) r ∧ ((0 ≤ r.2.2.2.2.2.2.1 ∧ r.2.2.2.2.2.2.1 ≤ (b.length : Int)) ∧ 1 ≤ r.2.1 ∧ r.2.1 ≤ n) := by
  unfold spec_l14Op.f
  obtain ⟨x, i1, h1, e1, hx, hi1⟩ := below_ok b i h n hb hi hn hn'
  have hw : wrap64 (1 + x) = 1 + x := wrap_in (by omega) (by omega)
  refine ex_bind e1 ?_
  obtain ⟨y, i2, h2, e2, hy, hi2⟩ := below_ok b i1 h1 3 hb hi1 (by decide) (by decide)
  refine ex_bind e2 ?_
  obtain ⟨z, i3, h3, e3, hi3⟩ := once_ok b i2 h2 4 hb hi2 (by decide) (by decide)
  refine ex_bind e3 ?_
  refine ex_ite (fun _ => ?_) (fun _ => ?_)
  · obtain ⟨u, i4, h4, e4, hu, hi4⟩ := below_ok b i3 h3 6 hb hi3 (by decide) (by decide)
    refine ex_bind e4 ?_
    obtain ⟨r, e, hc, hid⟩ := op_j0 b i4 h4 _ u hb hi4 (by omega)
    exact ⟨r, e, hc, by rw [hid, hw]; omega, by rw [hid, hw]; omega⟩
  · obtain ⟨r, e, hc, hid⟩ := op_j0 b i3 h3 _ y hb hi3 (by omega)
    exact ⟨r, e, hc, by rw [hid, hw]; omega, by rw [hid, hw]; omega⟩
theorem any_ok (b : List Int) (i h : Int) (hb : b.length ≤ 1048576) (hi : 0 ≤ i ∧ i ≤ (b.length : Int)) : ∃ r, Ev (fun k => spec_l14Any.f k b i h) r ∧ (0 ≤ r.2.2.2.2.2.2.1 ∧ r.2.2.2.2.2.2.1 ≤ (b.length : Int)) := by
  have j0 : ∀ (i h a0 a1 a2 a3 a4 a5 : Int), (0 ≤ i ∧ i ≤ (b.length : Int)) → ∃ r, Ev (fun k => spec_l14Any.j0 k b i h a0 a1 a2 a3 a4 a5) r ∧ (0 ≤ r.2.2.2.2.2.2.1 ∧ r.2.2.2.2.2.2.1 ≤ (b.length : Int)) := by
    intro i h a0 a1 a2 a3 a4 a5 hi
    apply ex_succ
    simp only [spec_l14Any.j0]
    obtain ⟨x, i', h', e, _, hi'⟩ := below_ok b i h 14 hb hi (by decide) (by decide)
    refine ex_bind e ?_
    refine ex_ite (fun _ => ?_) (fun _ => ?_)
    · obtain ⟨y, i2, h2, e2, _, hi2⟩ := below_ok b i' h' 8 hb hi' (by decide) (by decide)
      exact ex_bind e2 (ex_now hi2)
    refine ex_ite (fun _ => ?_) (fun _ => ?_)
    · obtain ⟨y, i2, h2, e2, hi2⟩ := pick_ok b i' h' [0, 9, 10] hb hi' (by decide) (by decide)
      exact ex_bind e2 (ex_now hi2)
    refine ex_ite (fun _ => ?_) (fun _ => ?_)
    · obtain ⟨y, i2, h2, e2, hi2⟩ := pick_ok b i' h' [(-1), 5, 6] hb hi' (by decide) (by decide)
      exact ex_bind e2 (ex_now hi2)
    refine ex_ite (fun _ => ?_) (fun _ => ex_now hi')
    obtain ⟨y, i2, h2, e2, hi2⟩ := pick_ok b i' h' [0, 5, 6] hb hi' (by decide) (by decide)
    exact ex_bind e2 (ex_now hi2)
  unfold spec_l14Any.f
  obtain ⟨⟨a0, a1, a2, a3, a4, a5, i1, h1⟩, e1, hi1, _⟩ := op_ok b i h 6 hb hi (by decide) (by decide)
  refine ex_bindE e1 ?_
  obtain ⟨z, i2, h2, e2, hi2⟩ := once_ok b i1 h1 3 hb hi1 (by decide) (by decide)
  refine ex_bind e2 ?_
  refine ex_ite (fun _ => ?_) (fun _ => j0 i2 h2 _ _ _ _ _ _ hi2)
  obtain ⟨x, i3, h3, e3, _, hi3⟩ := below_ok b i2 h2 7 hb hi2 (by decide) (by decide)
  refine ex_bind e3 ?_
  obtain ⟨y, i4, h4, e4, _, hi4⟩ := below_ok b i3 h3 4 hb hi3 (by decide) (by decide)
  refine ex_bind e4 ?_
  exact j0 i4 h4 _ _ _ _ _ _ hi4
theorem new_ok (b : List Int) (hb : b.length ≤ 1048576) : ∃ h, Ev (fun k => spec_l1New.f k b) (b, 0, h) := by
  have key : ∃ r, Ev (fun k => spec_l1New.l0 k b (wrap64 (10101 + (b.length : Int))) ((0 : Nat) : Int)) r ∧ ∃ h, r = (b, 0, h) := by
    refine ev_to (σ := Int) (fun s i k => spec_l1New.l0 k b s (i : Int)) b.length (fun _ _ => True) (fun r => ∃ h, r = (b, 0, h)) ?_ ?_ (wrap64 (10101 + (b.length : Int))) 0 (Nat.zero_le _) trivial
    · intro s i hi _ ih
      have h1 : (i : Int) < (b.length : Int) := by omega
      apply ex_succ
      simp only [spec_l1New.l0]
      rw [wrap_up hi (by omega)]
      exact ex_ite (fun _ => ex_ite (fun _ => ex_ite (fun _ => ih _ trivial) (fun c => absurd (Int.natCast_nonneg i) c)) (fun _ => ex_now ⟨_, rfl⟩)) (fun _ => ex_now ⟨_, rfl⟩)
    · intro s _
      apply ex_succ
      simp only [spec_l1New.l0]
      exact ex_ite (fun c => absurd c (Int.lt_irrefl _)) (fun _ => ex_now ⟨_, rfl⟩)
  obtain ⟨r, h, x, rfl⟩ := key
  exact ⟨x, h⟩
theorem fi (n : Int) (h0 : 0 ≤ n) (h1 : n < 100) : ∃ t : ByteArray, Ev (fun k => spec_FormatInt.f k n) t ∧ impl_FormatInt.f n = some t ∧ t.size ≤ 20 := by
  obtain ⟨m, rfl⟩ := Int.eq_ofNat_of_zero_le h0
  have hm : m < 100 := by omega
  have key : ∀ i : Fin 100, spec_FormatInt.f 4 ((i.val : Nat) : Int) = impl_FormatInt.f ((i.val : Nat) : Int) ∧ ((impl_FormatInt.f ((i.val : Nat) : Int)).elim false (fun t => decide (t.size ≤ 20))) = true := by decide +kernel
  obtain ⟨k1, k2⟩ := key ⟨m, hm⟩
  dsimp only at k1 k2
  cases hx : impl_FormatInt.f (m : Int) with
  | none => rw [hx] at k2; exact absurd k2 (by decide)
  | some t => rw [hx] at k1 k2; exact ⟨t, Ev.of (spec_FormatInt.mono _) k1, rfl, of_decide_eq_true k2⟩
theorem fv (n : Int) (h0 : -1 ≤ n) (h1 : n < 100) : ∃ t : ByteArray, Ev (fun k => spec_l3Value.f k n) t ∧ impl_formatValue.f n = some t ∧ t.size ≤ 20 := by
  by_cases h : n = -1
  · subst h
    refine ⟨⟨#[45]⟩, ?_, rfl, by decide⟩
    unfold spec_l3Value.f
    simp only [if_true]; exact Ev.now _
  · obtain ⟨t, e, i, hs⟩ := fi n (by omega) h1
    refine ⟨t, ?_, ?_, hs⟩
    · unfold spec_l3Value.f
      simp only [if_neg h]
      exact Ev.bind e (Ev.now _)
    · unfold impl_formatValue.f
      rw [if_neg h, i]; rfl
theorem fs (n : Int) (h0 : 1 ≤ n) (h1 : n ≤ 4) : ∃ t : ByteArray, spec_SchemeName.f n = some t ∧ impl_SchemeName.f n = some t ∧ t.size ≤ 20 := by
  have key : ∀ i : Fin 5, 1 ≤ i.val → spec_SchemeName.f ((i.val : Nat) : Int) = impl_SchemeName.f ((i.val : Nat) : Int) ∧ ((impl_SchemeName.f ((i.val : Nat) : Int)).elim false (fun t => decide (t.size ≤ 20))) = true := by decide +kernel
  obtain ⟨m, rfl⟩ := Int.eq_ofNat_of_zero_le (show 0 ≤ n by omega)
  have hm : m < 5 := by omega
  obtain ⟨k1, k2⟩ := key ⟨m, hm⟩ (by dsimp only; omega)
  dsimp only at k1 k2
  cases hx : impl_SchemeName.f (m : Int) with
  | none => rw [hx] at k2; exact absurd k2 (by decide)
  | some t => rw [hx] at k1 k2; exact ⟨t, k1, rfl, of_decide_eq_true k2⟩
theorem ex0 : (⟨#[98, 114, 119, 115, 99, 97]⟩ : ByteArray).extract 0 1 = ⟨#[98]⟩ := rfl
theorem ex1 : (⟨#[98, 114, 119, 115, 99, 97]⟩ : ByteArray).extract 1 2 = ⟨#[114]⟩ := rfl
theorem ex2 : (⟨#[98, 114, 119, 115, 99, 97]⟩ : ByteArray).extract 2 3 = ⟨#[119]⟩ := rfl
theorem ex3 : (⟨#[98, 114, 119, 115, 99, 97]⟩ : ByteArray).extract 3 4 = ⟨#[115]⟩ := rfl
theorem ex4 : (⟨#[98, 114, 119, 115, 99, 97]⟩ : ByteArray).extract 4 5 = ⟨#[99]⟩ := rfl
theorem ex5 : (⟨#[98, 114, 119, 115, 99, 97]⟩ : ByteArray).extract 5 6 = ⟨#[97]⟩ := rfl
theorem s1 (b : UInt8) : (⟨#[b]⟩ : ByteArray).size = 1 := rfl
theorem wrap1 (n : Int) (h : 1 ≤ n) (h' : n ≤ 6) : wrap64 (n - 1) = n - 1 := wrap_in (by omega) (by omega)
theorem wq1 : wrap64 ((1 : Int) - 1) = 0 := by rw [wrap_in (by omega) (by omega)]; rfl
theorem wq2 : wrap64 ((2 : Int) - 1) = 1 := by rw [wrap_in (by omega) (by omega)]; rfl
theorem wq3 : wrap64 ((3 : Int) - 1) = 2 := by rw [wrap_in (by omega) (by omega)]; rfl
theorem wq4 : wrap64 ((4 : Int) - 1) = 3 := by rw [wrap_in (by omega) (by omega)]; rfl
theorem wq5 : wrap64 ((5 : Int) - 1) = 4 := by rw [wrap_in (by omega) (by omega)]; rfl
theorem wq6 : wrap64 ((6 : Int) - 1) = 5 := by rw [wrap_in (by omega) (by omega)]; rfl
set_option maxHeartbeats 8000000 in
theorem op_text (a0 a1 a2 a3 a4 a5 : Int) : ∃ (b : Bool) (r : ByteArray), Ev (fun k => spec_FormatOp.f k a0 a1 a2 a3 a4 a5) r ∧ Ev (fun k => impl_IsValidOp.f k a0 a1 a2 a3 a4 a5) b ∧ (b = false → r = ⟨#[]⟩) ∧ (b = true → impl_formatOp.f a0 a1 a2 a3 a4 a5 = some r ∧ 1 ≤ r.size ∧ r.size ≤ 90) := by
  obtain ⟨b, s1', i1, hb⟩ := both_IsValidOp a0 a1 a2 a3 a4 a5
  cases b
  · refine ⟨false, ⟨#[]⟩, ?_, i1, fun _ => rfl, fun h => nomatch h⟩
    unfold spec_FormatOp.f
    refine Ev.bind s1' ?_
    simp only [Bool.false_eq_true, if_false]; exact Ev.now _
  obtain ⟨b1, b1', b0, b0', b2, b3, b5, b4x⟩ := hb rfl
  have b4 : a0 = 4 → a3 ≤ a4 ∧ a4 ≤ 5 := by first | exact b4x | exact b4x.1
  obtain ⟨t, et, it, ht⟩ := fi a1 (by omega) (by omega)
  have main : ∀ r, Ev (fun k => spec_FormatOp.f k a0 a1 a2 a3 a4 a5) r → impl_formatOp.f a0 a1 a2 a3 a4 a5 = some r → 1 ≤ r.size → r.size ≤ 90 → ∃ (b : Bool) (r : ByteArray), Ev (fun k => spec_FormatOp.f k a0 a1 a2 a3 a4 a5) r ∧ Ev (fun k => impl_IsValidOp.f k a0 a1 a2 a3 a4 a5) b ∧ (b = false → r = ⟨#[]⟩) ∧ (b = true → impl_formatOp.f a0 a1 a2 a3 a4 a5 = some r ∧ 1 ≤ r.size ∧ r.size ≤ 90) := fun r h1 h2 h3 h4 => ⟨true, r, h1, i1, fun h => (nomatch h), fun _ => ⟨h2, h3, h4⟩⟩
  obtain rfl | rfl | rfl | rfl | rfl | rfl : a0 = 1 ∨ a0 = 2 ∨ a0 = 3 ∨ a0 = 4 ∨ a0 = 5 ∨ a0 = 6 := by omega
  · obtain ⟨u, eu, iu, hu⟩ := fs a2 (b2 rfl).1 (b2 rfl).2
    refine main ((((⟨#[98]⟩ : ByteArray) ++ t) ++ (⟨#[32]⟩ : ByteArray)) ++ u) ?_ ?_ (by simp only [ByteArray.size_append, s1]; omega) (by simp only [ByteArray.size_append, s1]; omega)
    · unfold spec_FormatOp.f
      refine Ev.bind s1' ?_
      simp only [if_true]
      refine Ev.bind et ?_
      simp (disch := omega) only [if_true, eu, Option.bind_some, ByteArray.size_append, s1, if_pos]
      exact Ev.now _
    · unfold impl_formatOp.f
      simp (disch := omega) only [wq1, it, iu, Option.bind_some, show ((0 : Int)).toNat = 0 from rfl, show ((1 : Int)).toNat = 1 from rfl, ex0, ByteArray.size_append, s1, if_pos]
      exact if_pos trivial
  · obtain ⟨u, eu, iu, hu⟩ := fi a3 (b3 (by omega)).1 (by have := b3 (by omega); omega)
    refine main ((((⟨#[114]⟩ : ByteArray) ++ t) ++ (⟨#[32]⟩ : ByteArray)) ++ u) ?_ ?_ (by simp only [ByteArray.size_append, s1]; omega) (by simp only [ByteArray.size_append, s1]; omega)
    · unfold spec_FormatOp.f
      refine Ev.bind s1' ?_
      simp only [if_true]
      refine Ev.bind et ?_
      simp (disch := omega) only [if_neg, if_pos, ByteArray.size_append, s1]
      refine Ev.bind eu ?_
      simp (disch := omega) only [ByteArray.size_append, s1, if_pos]
      exact Ev.now _
    · unfold impl_formatOp.f
      simp (disch := omega) only [wq2, it, iu, Option.bind_some, show ((1 : Int)).toNat = 1 from rfl, show ((2 : Int)).toNat = 2 from rfl, ex1, ByteArray.size_append, s1, if_pos, if_neg]
      exact if_pos trivial
  · obtain ⟨u, eu, iu, hu⟩ := fi a3 (b3 (by omega)).1 (by have := b3 (by omega); omega)
    obtain ⟨v, ev, iv, hv⟩ := fv a5 (b5 rfl).1 (by have := b5 rfl; omega)
    refine main ((((((⟨#[119]⟩ : ByteArray) ++ t) ++ (⟨#[32]⟩ : ByteArray)) ++ u) ++ (⟨#[32]⟩ : ByteArray)) ++ v) ?_ ?_ (by simp only [ByteArray.size_append, s1]; omega) (by simp only [ByteArray.size_append, s1]; omega)
    · unfold spec_FormatOp.f
      refine Ev.bind s1' ?_
      simp only [if_true]
      refine Ev.bind et ?_
      simp (disch := omega) only [if_neg, if_pos, ByteArray.size_append, s1]
      refine Ev.bind eu ?_
      simp (disch := omega) only [ByteArray.size_append, s1, if_pos]
      refine Ev.bind ev ?_
      simp (disch := omega) only [ByteArray.size_append, s1, if_pos]
      exact Ev.now _
    · unfold impl_formatOp.f
      simp (disch := omega) only [wq3, it, iu, iv, Option.bind_some, show ((2 : Int)).toNat = 2 from rfl, show ((3 : Int)).toNat = 3 from rfl, ex2, ByteArray.size_append, s1, if_pos, if_neg]
      exact if_pos trivial
  · obtain ⟨u, eu, iu, hu⟩ := fi a3 (b3 (by omega)).1 (by have := b3 (by omega); omega)
    obtain ⟨v, ev, iv, hv⟩ := fi a4 (by have := b3 (by omega); have := b4 rfl; omega) (by have := b4 rfl; omega)
    refine main ((((((⟨#[115]⟩ : ByteArray) ++ t) ++ (⟨#[32]⟩ : ByteArray)) ++ u) ++ (⟨#[32]⟩ : ByteArray)) ++ v) ?_ ?_ (by simp only [ByteArray.size_append, s1]; omega) (by simp only [ByteArray.size_append, s1]; omega)
    · unfold spec_FormatOp.f
      refine Ev.bind s1' ?_
      simp only [if_true]
      refine Ev.bind et ?_
      simp (disch := omega) only [if_neg, if_pos, ByteArray.size_append, s1]
      refine Ev.bind eu ?_
      simp (disch := omega) only [ByteArray.size_append, s1, if_pos]
      refine Ev.bind ev ?_
      simp (disch := omega) only [ByteArray.size_append, s1, if_pos]
      exact Ev.now _
    · unfold impl_formatOp.f
      simp (disch := omega) only [wq4, it, iu, iv, Option.bind_some, show ((3 : Int)).toNat = 3 from rfl, show ((4 : Int)).toNat = 4 from rfl, ex3, ByteArray.size_append, s1, if_pos, if_neg]
      exact if_pos trivial
  · refine main ((⟨#[99]⟩ : ByteArray) ++ t) ?_ ?_ (by simp only [ByteArray.size_append, s1]; omega) (by simp only [ByteArray.size_append, s1]; omega)
    · unfold spec_FormatOp.f
      refine Ev.bind s1' ?_
      simp only [if_true]
      refine Ev.bind et ?_
      simp (disch := omega) only [if_neg, if_pos]
      exact Ev.now _
    · unfold impl_formatOp.f
      simp (disch := omega) only [wq5, it, Option.bind_some, show ((4 : Int)).toNat = 4 from rfl, show ((5 : Int)).toNat = 5 from rfl, ex4, ByteArray.size_append, s1, if_pos, if_neg]
  · refine main ((⟨#[97]⟩ : ByteArray) ++ t) ?_ ?_ (by simp only [ByteArray.size_append, s1]; omega) (by simp only [ByteArray.size_append, s1]; omega)
    · unfold spec_FormatOp.f
      refine Ev.bind s1' ?_
      simp only [if_true]
      refine Ev.bind et ?_
      simp (disch := omega) only [if_neg, if_pos]
      exact Ev.now _
    · unfold impl_formatOp.f
      simp (disch := omega) only [wq6, it, Option.bind_some, show ((5 : Int)).toNat = 5 from rfl, show ((6 : Int)).toNat = 6 from rfl, ex5, ByteArray.size_append, s1, if_pos, if_neg]
def JJ (xs : List ByteArray) : List UInt8 := Lib.join (xs.map (·.data.toList)) [59]
theorem JJ_one (t : ByteArray) : JJ ([] ++ [t]) = t.data.toList := by
  show Lib.join [t.data.toList] [59] = _
  exact Lib.join_one _ _
theorem JJ_snoc (xs : List ByteArray) (t : ByteArray) (h : 0 < xs.length) : JJ (xs ++ [t]) = JJ xs ++ [59] ++ t.data.toList := by
  cases xs with
  | nil => exact absurd h (by simp)
  | cons x r =>
    unfold JJ
    simp only [List.cons_append, List.map_cons, List.map_append, List.map_nil, Lib.join_cons]
    have := Lib.joinTail_take_succ [59] (r.map (·.data.toList) ++ [t.data.toList]) r.length t.data.toList (by simp)
    have e1 : (r.map (·.data.toList) ++ [t.data.toList]).take (r.length + 1) = r.map (·.data.toList) ++ [t.data.toList] := List.take_of_length_le (by simp)
    have e2 : (r.map (·.data.toList) ++ [t.data.toList]).take r.length = r.map (·.data.toList) := by rw [List.take_append_of_le_length (by simp), List.take_of_length_le (by simp)]
    rw [e1, e2] at this
    rw [this]
    simp only [List.append_assoc]
theorem cat_data (a b : ByteArray) : (a ++ b).data.toList = a.data.toList ++ b.data.toList := by simp [ByteArray.data_append]
theorem len_data (a : ByteArray) : a.data.toList.length = a.size := Array.length_toList
theorem of_data (a : ByteArray) (x : List UInt8) (h : a.data.toList = x) : a = ⟨x.toArray⟩ := by
  subst h
  cases a; simp
def Back (t : ByteArray) (e : S25) : Prop := Ev (fun k => spec_FormatOp.f k e.f0 e.f1 e.f2 e.f3 e.f4 e.f5) t ∧ Ev (fun k => impl_IsValidOp.f k e.f0 e.f1 e.f2 e.f3 e.f4 e.f5) true
/-- The text of a row of operations that are all valid: the operations' texts, joined. -/
def Joined (l : List S25) (r : ByteArray) : Prop := ¬ r.toList = ([] : List UInt8) → ∃ ts : List ByteArray, ts.length = l.length ∧ r.data.toList = JJ ts ∧ ∀ j (h1 : j < ts.length) (h2 : j < l.length), Back ts[j] l[j]
theorem joined_nil (l : List S25) : Joined l (⟨#[]⟩ : ByteArray) := fun h => absurd (by rw [ByteArray.toList_eq]) h
theorem back_snoc {l : List S25} {xs : List ByteArray} {t : ByteArray} {i : Nat} (hi : i < l.length) (hx : xs.length = i) (hb : ∀ j (h1 : j < xs.length) (h2 : j < l.length), Back xs[j] l[j]) (ht : Back t l[i]) : ∀ j (h1 : j < (xs ++ [t]).length) (h2 : j < l.length), Back (xs ++ [t])[j] l[j] := by
  intro j h1 h2
  by_cases c : j < xs.length
  · rw [List.getElem_append_left c]; exact hb j c h2
  · have hj : j = i := by rw [List.length_append, List.length_singleton] at h1; omega
    subst hj
    rw [List.getElem_append_right (by omega)]
    simp only [hx, Nat.sub_self, List.getElem_cons_zero]; exact ht
set_option maxHeartbeats 8000000 in
theorem ops_loops (l : List S25) (h60 : l.length ≤ 60) : ∃ r q, Ev (fun k => spec_FormatOps.l0 k l ⟨#[]⟩ ((0 : Nat) : Int)) r ∧ Ev (fun k => impl_FormatOps.l0 k [] l (l.length : Int) ((0 : Nat) : Int)) q ∧ r = q ∧ Joined l r ∧ r.size ≤ 1048576 := by
  refine ev_two (σ := ByteArray) (τ := List ByteArray) (fun s i k => spec_FormatOps.l0 k l s (i : Int)) (fun xs i k => impl_FormatOps.l0 k xs l (l.length : Int) (i : Int)) l.length (fun s xs i => xs.length = i ∧ s.data.toList = JJ xs ∧ s.size ≤ 91 * i ∧ (∀ j (h1 : j < xs.length) (h2 : j < l.length), Back xs[j] l[j])) (fun r q => r = q ∧ Joined l r ∧ r.size ≤ 1048576) ?_ ?_ ⟨#[]⟩ [] 0 (Nat.zero_le _) ⟨rfl, rfl, by decide, fun j h1 => absurd h1 (by simp)⟩
  · rintro s xs i hi ⟨hx, hj, hs, hbk⟩ ih
    have h1 : (i : Int) < (l.length : Int) := by omega
    have hle : decide ((l.length : Int) ≤ 60) = true := decide_eq_true (by omega)
    have e0 := wrap_up hi (by omega)
    have hrd : rd_T25 l (i : Int) = l[i] := by simp [rd_T25, hi]
    obtain ⟨b, t, et, ib, hf, ht⟩ := op_text (rd_T25 l (i : Int)).f0 (rd_T25 l (i : Int)).f1 (rd_T25 l (i : Int)).f2 (rd_T25 l (i : Int)).f3 (rd_T25 l (i : Int)).f4 (rd_T25 l (i : Int)).f5
    have sj : ∀ r, Ev (fun k => spec_FormatOps.j1 k l s (i : Int) true) r → Ev (fun k => spec_FormatOps.l0 k l s (i : Int)) r := by
      intro r hr
      apply Ev.succ
      simp only [spec_FormatOps.l0, h1, if_true, hle]; exact hr
    cases b
    · obtain rfl := hf rfl
      refine ⟨⟨#[]⟩, ⟨#[]⟩, sj _ (Ev.succ ?_), Ev.succ ?_, rfl, joined_nil l, by decide⟩
      · simp only [spec_FormatOps.j1, h1, Int.natCast_nonneg, if_true]
        refine Ev.bind et ?_
        have e : (⟨#[]⟩ : ByteArray).toList = [] := by rw [ByteArray.toList_eq]
        simp only [e, if_true]; exact Ev.now _
      · simp only [impl_FormatOps.l0, h1, Int.natCast_nonneg, if_true]
        refine Ev.bind ib ?_
        simp only [Bool.false_eq_true, if_false]; exact Ev.now _
    · obtain ⟨hfo, t1, t2⟩ := ht rfl
      have hbt : Back t l[i] := by rw [← hrd]; exact ⟨et, ib⟩
      have hbn := back_snoc hi hx hbk hbt
      have ne : ¬ t.toList = [] := by
        intro h
        rw [ByteArray.toList_eq] at h
        have := len_data t
        rw [h] at this
        simp at this; omega
      have hxl : xs.length < 8796093022208 := by omega
      by_cases h0 : 0 < i
      · have h3 : (i : Int) > 0 := by omega
        obtain ⟨r, q, hr, hq, hR⟩ := ih ((s ++ (⟨#[59]⟩ : ByteArray)) ++ t) (xs ++ [t]) ⟨by simp [hx], by
          rw [cat_data, cat_data, hj, JJ_snoc xs t (by omega)], by simp only [ByteArray.size_append, s1]; omega, hbn⟩
        have z1 : s.size + 1 ≤ 9223372036854775807 := by omega
        have z2 : (s ++ (⟨#[59]⟩ : ByteArray)).size + t.size ≤ 9223372036854775807 := by simp only [ByteArray.size_append, s1]; omega
        refine ⟨r, q, sj _ (Ev.succ ?_), Ev.succ ?_, hR⟩
        · simp only [spec_FormatOps.j1, h1, Int.natCast_nonneg, if_true]
          refine Ev.bind et ?_
          simp only [ne, if_false, h3, z1, z2, if_true, e0]; exact hr
        · simp only [impl_FormatOps.l0, h1, Int.natCast_nonneg, if_true]
          refine Ev.bind ib ?_
          simp only [if_true, hfo, Option.bind_some, hxl, e0]; exact hq
      · obtain rfl : i = 0 := by omega
        have hx0 : xs = [] := List.eq_nil_of_length_eq_zero hx
        subst hx0
        have h3 : ¬ ((0 : Nat) : Int) > 0 := by omega
        obtain ⟨r, q, hr, hq, hR⟩ := ih (s ++ t) ([] ++ [t]) ⟨rfl, by
          rw [cat_data, hj, JJ_one]; rfl, by simp only [ByteArray.size_append]; omega, hbn⟩
        have z2 : s.size + t.size ≤ 9223372036854775807 := by omega
        refine ⟨r, q, sj _ (Ev.succ ?_), Ev.succ ?_, hR⟩
        · simp only [spec_FormatOps.j1, h1, Int.natCast_nonneg, if_true]
          refine Ev.bind et ?_
          simp only [ne, if_false, h3, z2, if_true, e0]; exact hr
        · simp only [impl_FormatOps.l0, h1, Int.natCast_nonneg, if_true]
          refine Ev.bind ib ?_
          simp only [if_true, hfo, Option.bind_some, hxl, e0]; exact hq
  · rintro s xs ⟨hx, hj, hs, hbk⟩
    refine ⟨s, s, Ev.succ ?_, Ev.succ ?_, rfl, fun _ => ⟨xs, hx, hj, hbk⟩, by omega⟩
    · simp only [spec_FormatOps.l0, Int.lt_irrefl, if_false]
      exact Ev.succ (by simp only [spec_FormatOps.j1, Bool.false_eq_true, if_false]; exact Ev.now _)
    · simp only [impl_FormatOps.l0, Int.lt_irrefl, if_false]
      have q0 : xs.length ≤ 140737488355328 := by omega
      have hJ : Lib.join (xs.map (·.data.toList)) (⟨#[59]⟩ : ByteArray).data.toList = s.data.toList := hj.symm
      have q1 : (Lib.join (xs.map (·.data.toList)) (⟨#[59]⟩ : ByteArray).data.toList).length ≤ 140737488355328 := by rw [hJ, len_data]; omega
      have hs' : strings_Join.f xs (⟨#[59]⟩ : ByteArray) = some s := by
        unfold strings_Join.f
        rw [if_pos q0, if_pos q1, hJ, ← of_data s _ rfl]
      simp only [hs', Option.bind_some]; exact Ev.now _
theorem both_FormatOps (l : List S25) (hl : l.length ≤ 1048576) : ∃ r, Ev (fun k => spec_FormatOps.f k l) r ∧ Ev (fun k => impl_FormatOps.f k l) r ∧ (l.length ≤ 60 ∨ r = ⟨#[]⟩) ∧ Joined l r ∧ r.size ≤ 1048576 := by
  by_cases h60 : l.length ≤ 60
  · obtain ⟨r, q, hs, hi, rfl, hJ, hz⟩ := ops_loops l h60
    have hn : ¬ (l.length : Int) > 60 := by omega
    refine ⟨r, hs, ?_, .inl h60, hJ, hz⟩
    unfold impl_FormatOps.f
    simp only [hn, if_false]; exact hi
  · have hp : (l.length : Int) > 60 := by omega
    have hd : decide ((l.length : Int) ≤ 60) = false := decide_eq_false (by omega)
    refine ⟨⟨#[]⟩, ?_, ?_, .inr rfl, joined_nil l, by decide⟩
    · unfold spec_FormatOps.f
      apply Ev.succ
      have h1 : (0 : Int) < (l.length : Int) := by omega
      simp only [spec_FormatOps.l0, h1, if_true, hd]
      exact Ev.succ (by simp only [spec_FormatOps.j1, Bool.false_eq_true, if_false]; exact Ev.now _)
    · unfold impl_FormatOps.f
      simp only [hp, if_true]; exact Ev.now _
-- strings.Split at one byte
theorem idx_at (t : ByteArray) (c : UInt8) (i : Nat) (hi : t.data.toList[i]? = some c) (hb : ∀ k, k < i → t.data.toList[k]? ≠ some c) : Lib.indexB t (⟨#[c]⟩ : ByteArray) = (i : Int) := by
  have e : Lib.indexB t (⟨#[c]⟩ : ByteArray) = Lib.indexByte t.data.toList c := Lib.index_one _ _
  rw [e]
  have hge := Lib.indexByte_ge t.data.toList c
  by_cases h : Lib.indexByte t.data.toList c = -1
  · exact absurd hi (Lib.indexByte_none h i)
  · obtain ⟨o, ho⟩ := Int.eq_ofNat_of_zero_le (show 0 ≤ Lib.indexByte t.data.toList c by omega)
    obtain ⟨h1, h2⟩ := Lib.indexByte_some ho
    rcases Nat.lt_trichotomy o i with hlt | heq | hgt
    · exact absurd h1 (hb o hlt)
    · rw [ho, heq]
    · exact absurd hi (h2 i hgt)
theorem idx_none (t : ByteArray) (c : UInt8) (hb : ∀ k : Nat, t.data.toList[k]? ≠ some c) : Lib.indexB t (⟨#[c]⟩ : ByteArray) = -1 := by
  have e : Lib.indexB t (⟨#[c]⟩ : ByteArray) = Lib.indexByte t.data.toList c := Lib.index_one _ _
  rw [e]
  have hge := Lib.indexByte_ge t.data.toList c
  by_cases h : Lib.indexByte t.data.toList c = -1
  · exact h
  · obtain ⟨o, ho⟩ := Int.eq_ofNat_of_zero_le (show 0 ≤ Lib.indexByte t.data.toList c by omega)
    exact absurd (Lib.indexByte_some ho).1 (hb o)
theorem bt_byte (s : ByteArray) (m : Nat) (c : UInt8) (hm : m < s.size) : bt s (m : Int) = (c.toNat : Int) ↔ s.data.toList[m]? = some c := by
  have e : s.data.toList[m]? = some s[m] := by
    rw [Array.getElem?_toList]; exact Array.getElem?_eq_getElem hm
  have e2 : bt s (m : Int) = (s[m].toNat : Int) := by
    unfold bt
    simp only [Int.toNat_natCast, hm, dif_pos]
  rw [e, e2]
  constructor
  · intro h
    have : s[m].toNat = c.toNat := by omega
    rw [UInt8.toNat_inj.mp this]
  · intro h; rw [Option.some.inj h]
theorem ext_at (s : ByteArray) (i k : Nat) : (s.extract i s.size).data.toList[k]? = s.data.toList[i + k]? := by
  have hs : s.size = s.data.toList.length := by rw [Array.length_toList]; rfl
  rw [ByteArray.data_extract, Array.toList_extract, List.extract_eq_take_drop, List.getElem?_take, List.getElem?_drop, hs]
  split
  · rfl
  · symm; rw [List.getElem?_eq_none]; omega
def pieces (c : UInt8) (t : ByteArray) : List ByteArray := Lib.splitB (⟨#[c]⟩ : ByteArray) 0 (Lib.countB t (⟨#[c]⟩ : ByteArray)) t
-- what was joined with one byte between is cut into the same pieces (behind split_cut)
theorem pieces_one (c : UInt8) (t : ByteArray) (h : ∀ k : Nat, t.data.toList[k]? ≠ some c) : pieces c t = [t] := by
  unfold pieces; exact Lib.splitB_miss _ _ _ _ (idx_none t c h)
theorem pieces_cat (c : UInt8) (t u s : ByteArray) (hs : s.data.toList = t.data.toList ++ [c] ++ u.data.toList) (h : ∀ k : Nat, t.data.toList[k]? ≠ some c) : pieces c s = t :: pieces c u := by
  have hts : t.size = t.data.toList.length := by rw [Array.length_toList]; rfl
  have hss : s.size = t.size + 1 + u.size := by
    have := congrArg List.length hs
    simp only [List.length_append, Array.length_toList, List.length_singleton] at this
    exact this
  have hix : Lib.indexB s (⟨#[c]⟩ : ByteArray) = (t.size : Int) := by
    refine idx_at _ _ _ ?_ fun k hk => ?_
    · rw [hs, List.append_assoc, List.getElem?_append_right (by omega), hts, Nat.sub_self]; rfl
    · rw [hs, List.append_assoc, List.getElem?_append_left (by omega)]; exact h k
  have ex1 : s.extract 0 t.size = t := by
    apply ByteArray.ext; apply Array.toList_inj.mp
    rw [ByteArray.data_extract, Array.toList_extract, List.extract_eq_take_drop, hs, List.drop_zero, Nat.sub_zero, List.append_assoc, hts, List.take_left']
    rfl
  have ex2 : s.extract (t.size + 1) s.size = u := by
    apply ByteArray.ext; apply Array.toList_inj.mp
    rw [ByteArray.data_extract, Array.toList_extract, List.extract_eq_take_drop, hs, List.drop_left' (by simp only [List.length_append, List.length_singleton]; omega)]
    rw [List.take_of_length_le]
    rw [Array.length_toList]; show u.size ≤ _; omega
  unfold pieces
  rw [Lib.countB_hit s (⟨#[c]⟩ : ByteArray) t.size (Nat.le_refl 1) hix, Nat.add_comm 1, Lib.splitB_hit _ _ _ _ t.size hix, Nat.add_zero, ex1]
  show _ :: Lib.splitB _ 0 (Lib.countB (s.extract (t.size + 1) s.size) _) (s.extract (t.size + 1) s.size) = _
  rw [ex2]
theorem pieces_join (c : UInt8) : ∀ (xs : List ByteArray) (s : ByteArray), xs ≠ [] → (∀ x ∈ xs, ∀ k : Nat, x.data.toList[k]? ≠ some c) → s.data.toList = Lib.join (xs.map (·.data.toList)) [c] → pieces c s = xs
  | [], _, h, _, _ => absurd rfl h
  | [x], s, _, hx, hs => by
    have e : s = x := by
      apply ByteArray.ext; apply Array.toList_inj.mp
      rw [hs]; exact Lib.join_one _ _
    rw [e]; exact pieces_one c x (hx x (List.mem_singleton.mpr rfl))
  | x :: y :: r, s, _, hx, hs => by
    have e : Lib.join ((x :: y :: r).map (·.data.toList)) [c] = x.data.toList ++ [c] ++ Lib.join ((y :: r).map (·.data.toList)) [c] := by
      simp [Lib.join, List.intercalate]
    rw [pieces_cat c x (⟨(Lib.join ((y :: r).map (·.data.toList)) [c]).toArray⟩ : ByteArray) s (by rw [hs, e]) (hx x (List.mem_cons_self ..)),
      pieces_join c (y :: r) _ (by simp) (fun z hz => hx z (List.mem_cons_of_mem _ hz)) rfl]
-- what is written is read back: operations and rows of them (behind split_join, both_FormatOps2)
theorem chk_all (a0 a1 a2 a3 a4 a5 : Int) (h : (1 ≤ a1 ∧ a1 ≤ 9 ∧ 1 ≤ a0 ∧ a0 ≤ 6 ∧ (a0 = 1 → 1 ≤ a2 ∧ a2 ≤ 4) ∧ (a0 = 2 ∨ a0 = 3 ∨ a0 = 4 → 0 ≤ a3 ∧ a3 ≤ 5) ∧ (a0 = 3 → -1 ≤ a5 ∧ a5 ≤ 99) ∧ (a0 = 4 → a3 ≤ a4 ∧ a4 ≤ 5) ∧ (a0 = 1 ∨ a2 = 0) ∧ (a0 = 2 ∨ a0 = 3 ∨ a0 = 4 ∨ a3 = 0) ∧ (a0 = 4 ∨ a4 = 0) ∧ (a0 = 3 ∨ a5 = 0))) : chk a0 a1 a2 a3 a4 a5 = true := by
  obtain ⟨v1, v1', v0, v0', v2, v3, v5, v4, z2, z3, z4, z5⟩ := h
  rcases (show a0 = 1 ∨ a0 = 2 ∨ a0 = 3 ∨ a0 = 4 ∨ a0 = 5 ∨ a0 = 6 by omega) with rfl | rfl | rfl | rfl | rfl | rfl
  · have := v2 rfl
    obtain rfl : a3 = 0 := by omega
    obtain rfl : a4 = 0 := by omega
    obtain rfl : a5 = 0 := by omega
    obtain ⟨i, rfl⟩ := Int.eq_ofNat_of_zero_le (show 0 ≤ a1 by omega)
    obtain ⟨j, rfl⟩ := Int.eq_ofNat_of_zero_le (show 0 ≤ a2 by omega)
    exact chk1 ⟨i, by omega⟩ (by dsimp only; omega) ⟨j, by omega⟩ (by dsimp only; omega)
  · have := v3 (.inl rfl)
    obtain rfl : a2 = 0 := by omega
    obtain rfl : a4 = 0 := by omega
    obtain rfl : a5 = 0 := by omega
    obtain ⟨i, rfl⟩ := Int.eq_ofNat_of_zero_le (show 0 ≤ a1 by omega)
    obtain ⟨j, rfl⟩ := Int.eq_ofNat_of_zero_le (show 0 ≤ a3 by omega)
    exact chk2 ⟨i, by omega⟩ (by dsimp only; omega) ⟨j, by omega⟩
  · have := v3 (.inr (.inl rfl))
    have := v5 rfl
    obtain rfl : a2 = 0 := by omega
    obtain rfl : a4 = 0 := by omega
    rcases (show a3 = 0 ∨ a3 = 1 ∨ a3 = 2 ∨ a3 = 3 ∨ a3 = 4 ∨ a3 = 5 by omega) with rfl | rfl | rfl | rfl | rfl | rfl
    · exact chk30 a1 a5 (by omega) (by omega) (by omega) (by omega)
    · exact chk31 a1 a5 (by omega) (by omega) (by omega) (by omega)
    · exact chk32 a1 a5 (by omega) (by omega) (by omega) (by omega)
    · exact chk33 a1 a5 (by omega) (by omega) (by omega) (by omega)
    · exact chk34 a1 a5 (by omega) (by omega) (by omega) (by omega)
    · exact chk35 a1 a5 (by omega) (by omega) (by omega) (by omega)
  · have := v3 (.inr (.inr rfl))
    have := v4 rfl
    obtain rfl : a2 = 0 := by omega
    obtain rfl : a5 = 0 := by omega
    obtain ⟨i, rfl⟩ := Int.eq_ofNat_of_zero_le (show 0 ≤ a1 by omega)
    obtain ⟨j, rfl⟩ := Int.eq_ofNat_of_zero_le (show 0 ≤ a3 by omega)
    obtain ⟨l, rfl⟩ := Int.eq_ofNat_of_zero_le (show 0 ≤ a4 by omega)
    exact chk4 ⟨i, by omega⟩ (by dsimp only; omega) ⟨j, by omega⟩ ⟨l, by omega⟩ (by dsimp only; omega)
  · obtain rfl : a2 = 0 := by omega
    obtain rfl : a3 = 0 := by omega
    obtain rfl : a4 = 0 := by omega
    obtain rfl : a5 = 0 := by omega
    obtain ⟨i, rfl⟩ := Int.eq_ofNat_of_zero_le (show 0 ≤ a1 by omega)
    exact (chk56 ⟨i, by omega⟩ (by dsimp only; omega)).1
  · obtain rfl : a2 = 0 := by omega
    obtain rfl : a3 = 0 := by omega
    obtain rfl : a4 = 0 := by omega
    obtain rfl : a5 = 0 := by omega
    obtain ⟨i, rfl⟩ := Int.eq_ofNat_of_zero_le (show 0 ≤ a1 by omega)
    exact (chk56 ⟨i, by omega⟩ (by dsimp only; omega)).2
theorem bytes_eq {s t : ByteArray} (h : t.toList = s.toList) : t = s := by
  rw [ByteArray.toList_eq, ByteArray.toList_eq] at h
  exact ByteArray.ext (Array.toList_inj.mp h)
theorem no59 {t : ByteArray} (h : (!t.data.toList.contains 59) = true) : ∀ k : Nat, t.data.toList[k]? ≠ some 59 := by
  intro k hk
  have hm := List.mem_of_getElem? hk
  rw [Bool.not_eq_true', List.contains_eq_mem] at h
  exact absurd hm (of_decide_eq_false h)
theorem back_op (t : ByteArray) (a0 a1 a2 a3 a4 a5 : Int) (h1 : Ev (fun k => spec_FormatOp.f k a0 a1 a2 a3 a4 a5) t) (h2 : Ev (fun k => impl_IsValidOp.f k a0 a1 a2 a3 a4 a5) true) : Ev (fun k => impl_ParseOp.f k t) (a0, a1, a2, a3, a4, a5, true) ∧ ∀ k : Nat, t.data.toList[k]? ≠ some 59 := by
  obtain ⟨b, v1, v2, v3⟩ := both_IsValidOp a0 a1 a2 a3 a4 a5
  obtain rfl := Ev.uniq h2 v2
  have hc := chk_all a0 a1 a2 a3 a4 a5 (v3 rfl)
  unfold chk at hc
  cases hf : spec_FormatOp.f 60 a0 a1 a2 a3 a4 a5 with
  | none => rw [hf] at hc; simp at hc
  | some t' =>
    rw [hf] at hc
    obtain rfl := Ev.uniq (Ev.of (spec_FormatOp.mono _ _ _ _ _ _) hf) h1
    simp only [Option.elim_some, Bool.and_eq_true] at hc
    exact ⟨Ev.of (impl_ParseOp.mono _) (is7_eq hc.1), no59 hc.2⟩
theorem parse_list (l : List S25) (ts : List ByteArray) (h : ts.length = l.length) (h60 : l.length ≤ 60) (hb : ∀ j (h1 : j < ts.length) (h2 : j < l.length), Ev (fun k => impl_ParseOp.f k ts[j]) (l[j].f0, l[j].f1, l[j].f2, l[j].f3, l[j].f4, l[j].f5, true)) : Ev (fun k => impl_ParseOps.l0 k [] ts (ts.length : Int) 0) (l, true) := by
  have go : ∀ (d n : Nat), n + d = ts.length → Ev (fun k => impl_ParseOps.l0 k (l.take n) ts (ts.length : Int) (n : Int)) (l, true) := by
    intro d
    induction d with
    | zero =>
      intro n hn
      have g1 : ¬ (n : Int) < (ts.length : Int) := by omega
      refine Ev.succ ?_
      simp only [impl_ParseOps.l0, g1, if_false]
      rw [List.take_of_length_le (by omega)]; exact Ev.now _
    | succ d ih =>
      intro n hn
      have hn' : n < l.length := by omega
      have g1 : (n : Int) < (ts.length : Int) := by omega
      have g0 : (0 : Int) ≤ (n : Int) := by omega
      have hl : (l.take n).length = n := by rw [List.length_take]; omega
      have e0 : wrap64 ((n : Int) + 1) = ((n + 1 : Nat) : Int) := wrap_up (i := n) (n := 99) (by omega) (by omega)
      have q1 : ¬ ((l.take n).length : Int) = 60 := by omega
      have q2 : (l.take n).length < 2932031007402 := by omega
      have e : rdOf ByteArray.empty ts (n : Int) = ts[n] := by
        have : n < ts.length := by omega
        simp [rdOf, this]
      refine Ev.succ ?_
      simp only [impl_ParseOps.l0, g1, if_true, g0, e]
      refine Ev.bind (hb n (by omega) hn') ?_
      simp only [if_true, if_false, q1, q2, e0]
      have := ih (n + 1) (by omega)
      rw [← List.take_append_getElem hn'] at this
      exact this
  exact go ts.length 0 (by omega)
/-- What was written of a row of operations is read back. -/
theorem read_back (l : List S25) (r : ByteArray) (hl : l.length ≤ 1048576) (h60 : l.length ≤ 60 ∨ r = ⟨#[]⟩) (hJ : Joined l r) (hne : ¬ r.toList = ([] : List UInt8)) (hr : r.size ≤ 1048576) : Ev (fun k => impl_ParseOps.f k r) (l, true) := by
  have h60' : l.length ≤ 60 := by
    rcases h60 with h | rfl
    · exact h
    · exact absurd (by rw [ByteArray.toList_eq]) hne
  obtain ⟨ts, ht, hj, hb⟩ := hJ hne
  have hts : ts ≠ [] := by
    rintro rfl
    apply hne
    rw [ByteArray.toList_eq, hj]; rfl
  have hno : ∀ x ∈ ts, ∀ k : Nat, x.data.toList[k]? ≠ some 59 := by
    intro x hx
    obtain ⟨j, hj', rfl⟩ := List.getElem_of_mem hx
    exact (back_op _ _ _ _ _ _ _ (hb j hj' (by omega)).1 (hb j hj' (by omega)).2).2
  have hp : pieces 59 r = ts := pieces_join 59 ts r hts hno hj
  have hsp : strings_Split.f r (⟨#[59]⟩ : ByteArray) = some (pieces 59 r) := by
    unfold strings_Split.f
    rw [if_pos (by omega), if_pos (show 1 ≤ (⟨#[59]⟩ : ByteArray).size by decide)]; rfl
  unfold impl_ParseOps.f
  simp only [hne, if_false, hsp, Option.bind_some, hp]
  exact parse_list l ts ht h60' fun j h1 h2 => (back_op _ _ _ _ _ _ _ (hb j h1 h2).1 (hb j h1 h2).2).1
theorem ev_first (p : S25 → Bool) (a : Int) (hp : ∀ e : S25, impl_OpsOf_1.f e.f0 e.f1 e.f2 e.f3 e.f4 e.f5 a = some (p e)) (l : List S25) (hl : l.length ≤ 1048576) : ∃ q, Ev (fun k => impl_Op_55.f k l a) q ∧ ((q = -1 ∧ ∀ j (hj : j < l.length), p l[j] = false) ∨ (∃ t : Nat, ∃ ht : t < l.length, q = (t : Int) ∧ p l[t] = true ∧ ∀ j (hj : j < l.length), j < t → p l[j] = false)) := by
  show ∃ q, Ev (fun k => impl_Op_55.l0 k l (l.length : Int) ((0 : Nat) : Int) a) q ∧ _
  refine ev_to (σ := Unit) (fun _ i k => impl_Op_55.l0 k l (l.length : Int) (i : Int) a) l.length (fun _ i => ∀ j (hj : j < l.length), j < i → p l[j] = false) (fun q => (q = -1 ∧ ∀ j (hj : j < l.length), p l[j] = false) ∨ (∃ t : Nat, ∃ ht : t < l.length, q = (t : Int) ∧ p l[t] = true ∧ ∀ j (hj : j < l.length), j < t → p l[j] = false)) ?_ ?_ () 0 (Nat.zero_le _) (fun j hj h => absurd h (by omega))
  · intro _ i hi hI ih
    have h1 : (i : Int) < (l.length : Int) := by omega
    have e0 := wrap_up hi (by omega)
    have hrd : rd_T25 l (i : Int) = l[i] := by simp [rd_T25, hi]
    by_cases c : p (rd_T25 l (i : Int)) = true
    · refine ⟨(i : Int), Ev.succ ?_, .inr ⟨i, hi, rfl, by rw [← hrd]; exact c, hI⟩⟩
      simp only [impl_Op_55.l0, h1, hp, c, Int.natCast_nonneg, if_true, Option.bind_some]; exact Ev.now _
    · have cb : p (rd_T25 l (i : Int)) = false := by simpa using c
      obtain ⟨q, hs, hR⟩ := ih () (fun j hj hji => if hh : j < i then hI j hj hh else by obtain rfl : j = i := (by omega); rw [← hrd]; exact cb)
      refine ⟨q, Ev.succ ?_, hR⟩
      simp only [impl_Op_55.l0, h1, hp, cb, e0, Int.natCast_nonneg, if_true, if_false, Option.bind_some, Bool.false_eq_true]; exact hs
  · intro _ hI
    refine ⟨-1, Ev.succ ?_, .inl ⟨rfl, fun j hj => hI j hj hj⟩⟩
    simp only [impl_Op_55.l0, Int.lt_irrefl, if_false]; exact Ev.now _
theorem ev_delete (p : S25 → Bool) (a : Int) (hp : ∀ e : S25, impl_OpsOf_1.f e.f0 e.f1 e.f2 e.f3 e.f4 e.f5 a = some (p e)) (l : List S25) (hl : l.length ≤ 1048576) : Ev (fun k => impl_Op_32.f k l a) (l.filter (fun e => !p e)) := by
  obtain ⟨q, eq, hq⟩ := ev_first p a hp l hl
  unfold impl_Op_32.f
  refine Ev.bind eq ?_
  rcases hq with ⟨rfl, hn⟩ | ⟨t, ht, rfl, hpt, hn⟩
  · simp only [if_true, filter_none hn]; exact Ev.now _
  · have hne : ¬ ((t : Int) = -1) := by omega
    have e0 := wrap_up ht (by omega)
    simp only [hne, if_false, e0]
    refine ev_up (σ := List S25 × Nat) (fun s j k => impl_Op_32.l0 k s.1 (s.2 : Int) (j : Int) a) l.length (fun s j => Del p l s.1 s.2 j) (fun _ _ => l.filter (fun e => !p e)) ?_ ?_ (l, t) (t + 1) (by omega) (Del.start ht hpt hn)
    · rintro ⟨xs, i⟩ j hj hI ih
      have hlen := hI.1
      have hij := hI.2.1
      dsimp only at hlen hij hI ih ⊢
      have h1 : (j : Int) < (xs.length : Int) := by omega
      have hjx : j < xs.length := by omega
      have e1 := wrap_up hj (by omega)
      have hrd : rd_T25 xs (j : Int) = l[j] := by rw [← hI.get hjx hj]; simp [rd_T25, hjx]
      apply Ev.succ
      by_cases c : p (rd_T25 xs (j : Int)) = true
      · simp only [impl_Op_32.l0, h1, hp, c, e1, Int.natCast_nonneg, if_true, Option.bind_some]
        exact ih (xs, i) (hI.skip hj (by rw [← hrd]; exact c))
      · have cb : p (rd_T25 xs (j : Int)) = false := by simpa using c
        have h2 : (i : Int) < (xs.length : Int) := by omega
        have e2 := wrap_up (show i < l.length by omega) (by omega)
        simp only [impl_Op_32.l0, h1, h2, hp, cb, e1, e2, Int.natCast_nonneg, if_true, if_false, Option.bind_some, Bool.false_eq_true, Int.toNat_natCast]
        exact ih (xs.set i (rd_T25 xs (j : Int)), i + 1) (hI.keep hj (by rw [← hrd]; exact cb) hrd)
    · rintro ⟨xs, i⟩ hI
      have hlen := hI.1
      have hij := hI.2.1
      dsimp only at hlen hij hI ⊢
      have h1 : ¬ ((l.length : Int) < (xs.length : Int)) := by omega
      have h2 : (i : Int) ≤ (xs.length : Int) := by omega
      apply Ev.succ
      simp only [impl_Op_32.l0, h1, h2, Int.natCast_nonneg, if_true, if_false, Int.toNat_natCast]
      refine Ev.some ?_
      rw [← hI.done]
      unfold clr
      rw [List.take_append_of_le_length (by rw [List.length_take]; omega), List.take_take, Nat.min_self]
theorem ev_filter (p : S25 → Bool) (a : Int) (L : Nat → List S25 → Int → Option (List S25)) (l : List S25) (hl : l.length ≤ 1048576)
    (hstop : ∀ k ys, L (k + 1) ys (l.length : Int) = some ys)
    (hgo : ∀ k ys i (hi : i < l.length), ys.length ≤ 1048576 → L (k + 1) ys (i : Int) = if p l[i] = true then L k ys ((i + 1 : Nat) : Int) else L k (ys ++ [l[i]]) ((i + 1 : Nat) : Int)) : Ev (fun k => L k [] ((0 : Nat) : Int)) (l.filter (fun e => !p e)) := by
  refine ev_up (σ := List S25) (fun ys i k => L k ys (i : Int)) l.length (fun ys i => ys = (l.take i).filter (fun e => !p e)) (fun _ _ => l.filter (fun e => !p e)) ?_ ?_ [] 0 (Nat.zero_le _) (by simp)
  · rintro ys i hi rfl ih
    have hle : ((l.take i).filter (fun e => !p e)).length ≤ 1048576 := Nat.le_trans (List.length_filter_le ..) (by rw [List.length_take]; omega)
    apply Ev.succ
    simp only [hgo _ _ i hi hle]
    by_cases c : p l[i] = true
    · simp only [c, if_true]
      exact ih _ (by rw [take_succ_filter _ _ _ hi]; simp [c])
    · simp only [c, Bool.false_eq_true, if_false]
      exact ih _ (by rw [take_succ_filter _ _ _ hi]; simp [c])
  · rintro ys rfl
    apply Ev.succ
    simp only [hstop]
    exact Ev.some (by rw [List.take_length])
theorem ops_ok (b : List Int) (i h n : Int) (hb : b.length ≤ 1048576) (hi : 0 ≤ i ∧ i ≤ (b.length : Int)) (hn : 1 ≤ n) (hn' : n ≤ 100) : ∃ r, Ev (fun k => spec_l14Ops.f k b i h n) r ∧ (r.1.length ≤ 1000 ∧ (0 ≤ r.2.1 ∧ r.2.1 ≤ (b.length : Int))) := by
  have key : ∀ (m : Nat), m ≤ 200 → ∀ (xs : List S25) (op : List Bool) (i h : Int), (0 ≤ i ∧ i ≤ (b.length : Int)) → op.length = 7 → xs.length + 2 * m ≤ 1000 → ∃ r, Ev (fun k => spec_l14Ops.l0 k xs op (m : Int) b i h) r ∧ (r.1.length ≤ 1000 ∧ (0 ≤ r.2.1 ∧ r.2.1 ≤ (b.length : Int))) := by
    intro m
    induction m with
    | zero =>
      intro _ xs op i h hi ho hx
      apply ex_succ
      simp only [spec_l14Ops.l0]
      exact ex_ite (fun c => absurd c (by simp)) (fun _ => ex_now ⟨by dsimp only; omega, hi⟩)
    | succ m ih =>
      intro hm xs op i h hi ho hx
      have hw : wrap64 (((m + 1 : Nat) : Int) - 1) = (m : Int) := by unfold wrap64; omega
      apply ex_succ
      simp only [spec_l14Ops.l0]
      rw [hw]
      refine ex_ite (fun _ => ?_) (fun c => absurd (by omega) c)
      obtain ⟨⟨a0, a1, a2, a3, a4, a5, i1, h1⟩, e1, hi1, hid⟩ := op_ok b i h 5 hb hi (by decide) (by decide)
      dsimp only at hi1 hid
      refine ex_bindE e1 ?_
      dsimp only
      refine ex_ite (fun _ => ?_) (fun c => absurd (by omega) c)
      refine ex_ite (fun _ => ?_) (fun c => absurd (by omega) c)
      refine ex_ite (fun _ => ?_) (fun _ => ?_)
      · refine ex_ite (fun _ => ?_) (fun c => absurd (by omega) c)
        exact ih (by omega) _ op i1 h1 hi1 ho (by simp; omega)
      · obtain ⟨y, i2, h2, e2, _, hi2⟩ := below_ok b i1 h1 4 hb hi1 (by decide) (by decide)
        refine ex_bind e2 ?_
        dsimp only
        refine ex_ite (fun _ => ?_) (fun c => absurd (by omega) c)
        refine ex_bind rfl ?_
        refine ex_ite (fun _ => ?_) (fun c => absurd (by simp; omega) c)
        exact ih (by omega) _ _ i2 h2 hi2 (by simp; omega) (by simp; omega)
  unfold spec_l14Ops.f
  obtain ⟨x, i1, h1, e1, hx, hi1⟩ := below_ok b i h n hb hi hn (by omega)
  refine ex_bind e1 ?_
  obtain ⟨m, hm⟩ : ∃ m : Nat, wrap64 (4 + x) = (m : Int) ∧ m ≤ 104 := ⟨(4 + x).toNat, by unfold wrap64; omega, by omega⟩
  obtain ⟨r, e, hr⟩ := key m (by omega) [] [false, false, false, false, false, false, false] i1 h1 hi1 rfl (by simp; omega)
  refine ⟨r, ?_, hr⟩
  dsimp only
  rw [hm.1]; exact e
theorem ops15_ok (b : List Int) (i h : Int) (hb : b.length ≤ 1048576) (hi : 0 ≤ i ∧ i ≤ (b.length : Int)) : ∃ r, Ev (fun k => spec_l15Ops.f k b i h) r ∧ r.1.length ≤ 1048576 := by
  unfold spec_l15Ops.f
  obtain ⟨⟨l, i1, h1⟩, e1, hl, hi1⟩ := ops_ok b i h 20 hb hi (by decide) (by decide)
  dsimp only at hl hi1
  refine ex_bindE e1 ?_
  obtain ⟨x, i2, h2, e2, hi2⟩ := once_ok b i1 h1 8 hb hi1 (by decide) (by decide)
  refine ex_bind e2 ?_
  refine ex_ite (fun _ => ?_) (fun _ => ex_now (by dsimp only; omega))
  obtain ⟨r, e3, _⟩ := any_ok b i2 h2 hb hi2
  refine ex_bindE e3 ?_
  refine ex_ite (fun _ => ex_now ?_) (fun c => absurd (by dsimp only; omega) c)
  simp only [List.length_append, List.length_singleton]; omega
theorem draw_ops_ok (b : List Int) (hb : b.length ≤ 1048576) : ∃ r, Ev (fun k => spec_DrawFormatOps.f k b) r ∧ r.length ≤ 1048576 := by
  unfold spec_DrawFormatOps.f
  obtain ⟨h0, e0⟩ := new_ok b hb
  refine ex_bindE e0 ?_
  obtain ⟨r, e1, hr⟩ := ops15_ok b 0 h0 hb ⟨Int.le_refl _, by omega⟩
  refine ex_bindE e1 ?_
  exact ex_now hr
theorem draw_op_ok (b : List Int) (hb : b.length ≤ 1048576) : ∃ r, Ev (fun k => spec_DrawFormatOp.f k b) r ∧ True := by
  unfold spec_DrawFormatOp.f
  obtain ⟨h0, e0⟩ := new_ok b hb
  refine ex_bindE e0 ?_
  obtain ⟨r, e1, hr⟩ := any_ok b 0 h0 hb ⟨Int.le_refl _, by omega⟩
  refine ex_bindE e1 ?_
  exact ex_now trivial
theorem one_law (a0 a1 a2 a3 a4 a5 : Int) : ∃ s : ByteArray, Ev (fun k => impl_FormatOp.f k a0 a1 a2 a3 a4 a5) s ∧ Ev (fun k => spec_FormatOp.f k a0 a1 a2 a3 a4 a5) s ∧ ∃ (v : Bool) (q : O7), Ev (fun k => spec_IsValidOp.f k a0 a1 a2 a3 a4 a5) v ∧ Ev (fun k => impl_ParseOp.f k s) q ∧ ((v = true ∧ q = (a0, a1, a2, a3, a4, a5, true)) ∨ (v = false ∧ q = (0, 0, 0, 0, 0, 0, false))) := by
  obtain ⟨b, r, e1, e2, hf, ht⟩ := op_text a0 a1 a2 a3 a4 a5
  obtain ⟨v, v1, v2, _⟩ := both_IsValidOp a0 a1 a2 a3 a4 a5
  obtain rfl := Ev.uniq e2 v2
  cases b
  · obtain rfl := hf rfl
    refine ⟨⟨#[]⟩, ?_, e1, false, (0, 0, 0, 0, 0, 0, false), v1, ?_, .inr ⟨rfl, rfl⟩⟩
    · unfold impl_FormatOp.f
      refine Ev.bind e2 ?_
      simp only [Bool.false_eq_true, if_false]; exact Ev.now _
    · have h2 : impl_ParseOp.f 20 (⟨#[]⟩ : ByteArray) = some (0, 0, 0, 0, 0, 0, false) := by kernel_rfl
      exact Ev.of (impl_ParseOp.mono _) h2
  · refine ⟨r, ?_, e1, true, _, v1, (back_op r a0 a1 a2 a3 a4 a5 e1 e2).1, .inl ⟨rfl, rfl⟩⟩
    unfold impl_FormatOp.f
    refine Ev.bind e2 ?_
    simp only [if_true, (ht rfl).1, Option.bind_some]; exact Ev.now _
theorem ev_EqualOps (l : List S25) (hl : l.length ≤ 1048576) : Ev (fun k => impl_EqualOps.f k l l) true := by
  have h : Ev (fun k => impl_Op_31.l0 k l l (l.length : Int) ((0 : Nat) : Int)) true := by
    refine ev_up (σ := Unit) (fun _ i k => impl_Op_31.l0 k l l (l.length : Int) (i : Int)) l.length (fun _ _ => True) (fun _ _ => true) ?_ ?_ () 0 (Nat.zero_le _) trivial
    · intro _ i hi _ ih
      have h1 : (i : Int) < (l.length : Int) := by omega
      apply Ev.succ
      simp only [impl_Op_31.l0, h1, Int.natCast_nonneg, if_true, beq_self_eq_true, Bool.not_true, Bool.or_false, Bool.false_eq_true, if_false, wrap_up hi (by omega)]
      exact ih () trivial
    · intro _ _
      apply Ev.succ
      simp only [impl_Op_31.l0, Int.lt_irrefl, if_false]; exact Ev.now _
  unfold impl_EqualOps.f impl_Op_31.f
  simp only [if_true]
  exact Ev.bind h (Ev.now _)
-- the counts
def cnt (l : List S25) (z : Int) : Nat := (l.filter (fun e => !(e.f1 != z))).length
def cn : List S25 → Nat
  | [] => 0
  | e :: l => cn l + (if 1 ≤ e.f1 ∧ e.f1 ≤ 9 then 1 else 0)
theorem cnt_cons (e : S25) (l : List S25) (z : Int) : cnt (e :: l) z = cnt l z + (if e.f1 = z then 1 else 0) := by
  unfold cnt
  by_cases c : e.f1 = z
  · rw [List.filter_cons_of_pos (by simp [c]), List.length_cons, if_pos c]
  · rw [List.filter_cons_of_neg (by simp [c]), if_neg c]; rfl
theorem nine (z : Int) : (if z = 1 then 1 else 0) + (if z = 2 then 1 else 0) + (if z = 3 then 1 else 0) + (if z = 4 then 1 else 0) + (if z = 5 then 1 else 0) + (if z = 6 then 1 else 0) + (if z = 7 then 1 else 0) + (if z = 8 then 1 else 0) + (if z = 9 then 1 else 0) = (if 1 ≤ z ∧ z ≤ 9 then 1 else 0 : Nat) := by
  by_cases c : 1 ≤ z ∧ z ≤ 9
  · rcases (show z = 1 ∨ z = 2 ∨ z = 3 ∨ z = 4 ∨ z = 5 ∨ z = 6 ∨ z = 7 ∨ z = 8 ∨ z = 9 by omega) with rfl | rfl | rfl | rfl | rfl | rfl | rfl | rfl | rfl <;> decide
  · rw [if_neg c, if_neg (by omega), if_neg (by omega), if_neg (by omega), if_neg (by omega), if_neg (by omega), if_neg (by omega), if_neg (by omega), if_neg (by omega), if_neg (by omega)]
theorem cnt_all : ∀ l : List S25, cnt l 1 + cnt l 2 + cnt l 3 + cnt l 4 + cnt l 5 + cnt l 6 + cnt l 7 + cnt l 8 + cnt l 9 = cn l
  | [] => rfl
  | e :: l => by
    have ih := cnt_all l
    have h9 := nine e.f1
    simp only [cnt_cons, cn]
    omega
theorem cnt_le (l : List S25) (z : Int) : cnt l z ≤ l.length := List.length_filter_le ..
theorem cn_le : ∀ l : List S25, cn l ≤ l.length
  | [] => Nat.le_refl _
  | e :: l => by
    have ih := cn_le l
    simp only [cn, List.length_cons]
    split <;> omega
theorem ev_OpsOf (l : List S25) (a : Int) (hl : l.length ≤ 1048576) : Ev (fun k => impl_OpsOf.f k l a) (l.filter (fun e => !(e.f1 != a))) := by
  unfold impl_OpsOf.f impl_Op_33.f
  have h2 : ([] : List S25).length + l.length < 2932031007402 := by simp; omega
  have h3 : ([] : List S25).length + l.length < 8796093022208 := by simp; omega
  simp only [Option.bind_some, h2, h3, if_true, List.nil_append]
  exact Ev.bind (ev_delete (fun e => (e.f1 != a)) a (by intro e; rfl) l hl) (Ev.now _)
theorem l0_step (l : List S25) (hl : l.length ≤ 1048576) (n id : Nat) (h : id ≤ 9) (hn : n ≤ 1048576 * 20) {r : Bool} (hr : Ev (fun k => laws_FnOps.l0 k l ((n + cnt l (id : Int) : Nat) : Int) ((id + 1 : Nat) : Int)) r) : Ev (fun k => laws_FnOps.l0 k l (n : Int) (id : Int)) r := by
  have h9 : (id : Int) ≤ 9 := by omega
  have hc := cnt_le l (id : Int)
  have e1 : wrap64 ((n : Int) + ((l.filter (fun e => !(e.f1 != (id : Int)))).length : Int)) = ((n + cnt l (id : Int) : Nat) : Int) := by
    rw [wrap_in (by unfold cnt at hc; omega) (by unfold cnt at hc; omega)]; unfold cnt; omega
  have e2 : wrap64 ((id : Int) + 1) = ((id + 1 : Nat) : Int) := wrap_up (i := id) (n := 99) (by omega) (by omega)
  apply Ev.succ
  simp only [laws_FnOps.l0, h9, if_true]
  refine Ev.bind (ev_OpsOf l (id : Int) hl) ?_
  simp only [e1, e2]; exact hr
theorem l1_count (l : List S25) (hl : l.length ≤ 1048576) (N : Int) : ∀ (d i c : Nat), i + d = l.length → c + cn (l.drop i) = cn l → Ev (fun k => laws_FnOps.l1 k l N (c : Int) (i : Int)) (N == (cn l : Int)) := by
  intro d
  induction d with
  | zero =>
    intro i c hi hc
    have g1 : ¬ (i : Int) < (l.length : Int) := by omega
    rw [List.drop_eq_nil_of_le (by omega)] at hc
    have hc' : c = cn l := hc
    apply Ev.succ
    simp only [laws_FnOps.l1, g1, if_false, hc']; exact Ev.now _
  | succ d ih =>
    intro i c hi hc
    have hi' : i < l.length := by omega
    have hcl := cn_le l
    have g1 : (i : Int) < (l.length : Int) := by omega
    have g0 : (0 : Int) ≤ (i : Int) := by omega
    have hrd : rd_T25 l (i : Int) = l[i] := by simp [rd_T25, hi']
    have e0 := wrap_up hi' (by omega)
    have e1 : wrap64 ((c : Int) + 1) = ((c + 1 : Nat) : Int) := wrap_up (i := c) (n := 9999999) (by omega) (by omega)
    rw [List.drop_eq_getElem_cons hi'] at hc
    simp only [cn] at hc
    apply Ev.succ
    by_cases c1 : l[i].f1 ≥ 1
    · by_cases c2 : l[i].f1 ≤ 9
      · rw [if_pos ⟨c1, c2⟩] at hc
        simp only [laws_FnOps.l1, g1, g0, if_true, hrd, c1, c2, e0, e1]
        exact ih (i + 1) (c + 1) (by omega) (by omega)
      · rw [if_neg (fun h => c2 h.2)] at hc
        simp only [laws_FnOps.l1, g1, g0, if_true, if_false, hrd, c1, c2, e0]
        exact ih (i + 1) c (by omega) (by omega)
    · rw [if_neg (fun h => c1 h.1)] at hc
      simp only [laws_FnOps.l1, g1, g0, if_true, if_false, hrd, c1, e0]
      exact ih (i + 1) c (by omega) (by omega)
theorem counts (l : List S25) (hl : l.length ≤ 1048576) : Ev (fun k => laws_FnOps.j1 k l false) true := by
  apply Ev.succ
  simp only [laws_FnOps.j1, Bool.false_eq_true, if_false]
  have hc := fun z => cnt_le l z
  have hall := cnt_all l
  have h1 := hc 1; have h2 := hc 2; have h3 := hc 3; have h4 := hc 4; have h5 := hc 5; have h6 := hc 6; have h7 := hc 7; have h8 := hc 8; have h9 := hc 9
  clear hc
  refine l0_step l hl 0 1 (by omega) (by omega) ?_
  refine l0_step l hl _ 2 (by omega) (by simp only [Int.natCast_one, Int.cast_ofNat_Int]; omega) ?_
  refine l0_step l hl _ 3 (by omega) (by simp only [Int.natCast_one, Int.cast_ofNat_Int]; omega) ?_
  refine l0_step l hl _ 4 (by omega) (by simp only [Int.natCast_one, Int.cast_ofNat_Int]; omega) ?_
  refine l0_step l hl _ 5 (by omega) (by simp only [Int.natCast_one, Int.cast_ofNat_Int]; omega) ?_
  refine l0_step l hl _ 6 (by omega) (by simp only [Int.natCast_one, Int.cast_ofNat_Int]; omega) ?_
  refine l0_step l hl _ 7 (by omega) (by simp only [Int.natCast_one, Int.cast_ofNat_Int]; omega) ?_
  refine l0_step l hl _ 8 (by omega) (by simp only [Int.natCast_one, Int.cast_ofNat_Int]; omega) ?_
  refine l0_step l hl _ 9 (by omega) (by simp only [Int.natCast_one, Int.cast_ofNat_Int]; omega) ?_
  have e : 0 + cnt l ((1 : Nat) : Int) + cnt l ((2 : Nat) : Int) + cnt l ((3 : Nat) : Int) + cnt l ((4 : Nat) : Int) + cnt l ((5 : Nat) : Int) + cnt l ((6 : Nat) : Int) + cnt l ((7 : Nat) : Int) + cnt l ((8 : Nat) : Int) + cnt l ((9 : Nat) : Int) = cn l := by
    rw [Nat.zero_add]; exact hall
  rw [e]
  have g : ¬ (((9 + 1 : Nat) : Int) ≤ 9) := by omega
  apply Ev.succ
  simp only [laws_FnOps.l0, g, if_false]
  have h := l1_count l hl (cn l : Int) l.length 0 0 (by omega) (by simp)
  rw [beq_self_eq_true] at h
  exact h
theorem lists (b : List Int) (hb : b.length ≤ 1048576) : Ev (fun k => laws_FnOps.j0 k b false) true := by
  apply Ev.succ
  simp only [laws_FnOps.j0, Bool.false_eq_true, if_false]
  obtain ⟨l, e1, hl⟩ := draw_ops_ok b hb
  obtain ⟨r, s1, i1, h60, hJ, hz⟩ := both_FormatOps l hl
  refine Ev.bind e1 (Ev.bind i1 ?_)
  by_cases c : r.toList = ([] : List UInt8)
  · have hp : Ev (fun k => impl_ParseOps.f k r) ([], true) := by
      unfold impl_ParseOps.f
      simp only [c, if_true]; exact Ev.now _
    refine Ev.bind hp (Ev.bind s1 ?_)
    simp only [if_true, c]
    exact counts l hl
  · refine Ev.bind (read_back l r hl h60 hJ c hz) (Ev.bind s1 ?_)
    simp only [if_true, if_false, c]
    refine Ev.bind (ev_EqualOps l hl) ?_
    simp only [Bool.not_true]
    exact counts l hl
theorem FnOps : laws_FnOps.Pure := by
  intro b _ _ _
  apply Ev.rounds
  unfold laws_FnOps.f laws_big.f
  simp only [Option.bind_some]
  by_cases h : (b.length : Int) > 1048576
  · simp only [h, decide_true, if_true]; exact Ev.now _
  have hb : b.length ≤ 1048576 := by omega
  simp only [h, decide_false, Bool.false_eq_true, if_false]
  obtain ⟨⟨a0, a1, a2, a3, a4, a5⟩, e1, _⟩ := draw_op_ok b hb
  refine Ev.bind e1 ?_
  obtain ⟨s, f1, f2, v, q, v1, p1, hq⟩ := one_law a0 a1 a2 a3 a4 a5
  refine Ev.bind f1 (Ev.bind p1 (Ev.bind f2 ?_))
  simp only [if_true]
  refine Ev.bind v1 ?_
  rcases hq with ⟨rfl, rfl⟩ | ⟨rfl, rfl⟩
  · simp only [bne_self_eq_false, Bool.false_eq_true, if_false, if_true, beq_self_eq_true, Bool.not_true, Bool.or_false]
    exact lists b hb
  · simp only [bne_self_eq_false, Bool.false_eq_true, if_false]
    exact lists b hb

end Go.Proofs.YtdfbmaiboadodaaDoor.Pure
