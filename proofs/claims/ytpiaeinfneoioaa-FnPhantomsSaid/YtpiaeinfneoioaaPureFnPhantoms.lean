/- The plain statement of FnPhantoms: what is drawn ends; both functions give one index; where a key appeared or disappeared behind a stamp the key's node is newer than the stamp. Condition: the code's length is at most maxLen. -/
import Derived.Test.YtpiaeinfneoioaaPFnPhantomsx14
import Derived.Test.YtpiaeinfneoioaaPlainT
namespace Go.Proofs.Ytpiaeinfneoioaa.Pure
open Go.RowKit Go.Proofs.Ytpiaeinfneoioaa.PFnPhantoms Go.Proofs.YtpiaeinfneoioaaW.PrintWords Go.Proofs.YtpiaeinfneoioaaW.PrintLast Go.Proofs.Ytpiaeinfneoioaa.Plain
set_option linter.unusedVariables false
set_option linter.unusedSimpArgs false


theorem ex_succ {α : Type} {g : Nat → Option α} {P : α → Prop} (h : ∃ r, Ev (fun k => g (k + 1)) r ∧ P r) : ∃ r, Ev g r ∧ P r := by
  obtain ⟨r, a, b⟩ := h
  exact ⟨r, Ev.succ a, b⟩
theorem ex_ite {α : Type} {c : Prop} [Decidable c] {f g : Nat → Option α} {P : α → Prop} (h1 : c → ∃ r, Ev f r ∧ P r) (h2 : ¬ c → ∃ r, Ev g r ∧ P r) : ∃ r, Ev (fun k => if c then f k else g k) r ∧ P r := by
  by_cases h : c
  · simpa only [if_pos h] using h1 h
  · simpa only [if_neg h] using h2 h
theorem ex_now {α : Type} {x : α} {P : α → Prop} (h : P x) : ∃ r, Ev (fun _ => some x) r ∧ P r := ⟨x, Ev.now _, h⟩
theorem ex_bind {α β : Type} {x : Option α} {a : α} (e : x = some a) {g : Nat → α → Option β} {P : β → Prop} (h : ∃ r, Ev (fun k => g k a) r ∧ P r) : ∃ r, Ev (fun k => x.bind (g k)) r ∧ P r := by
  subst e; exact h
theorem ex_bindE {α β : Type} {f : Nat → Option α} {a : α} (e : Ev f a) {g : Nat → α → Option β} {P : β → Prop} (h : ∃ r, Ev (fun k => g k a) r ∧ P r) : ∃ r, Ev (fun k => (f k).bind (g k)) r ∧ P r := by
  obtain ⟨r, h1, h2⟩ := h
  exact ⟨r, Ev.bind e h1, h2⟩
theorem and255 (x : Int) : 0 ≤ Go.bits .and .i64 x 255 ∧ Go.bits .and .i64 x 255 ≤ 255 := by
  have h : Go.bits .and .i64 x 255 = IntKind.i64.wrap (((BitVec.ofInt 64 x &&& BitVec.ofInt 64 255).toNat : Nat) : Int) := rfl
  rw [h, BitVec.toNat_and, show (BitVec.ofInt 64 255).toNat = 255 from by decide]
  have h3 : (BitVec.ofInt 64 x).toNat &&& 255 ≤ 255 := Nat.and_le_right
  rw [IntKind.wrap_i64]; omega
theorem byte_ok (b : List Int) (i h : Int) (hb : b.length ≤ 1048576) (hi : 0 ≤ i ∧ i ≤ (b.length : Int)) : ∃ x i' h', spec_l1Byte.f b i h = some (x, i', h') ∧ (0 ≤ x ∧ x ≤ 255) ∧ (0 ≤ i' ∧ i' ≤ (b.length : Int)) := by
  unfold spec_l1Byte.f
  by_cases c : i < (b.length : Int)
  · have hw : wrap64 (i + 1) = i + 1 := wrap_in (by omega) (by omega)
    rw [if_pos c, if_pos hi.1, hw]
    exact ⟨_, _, _, rfl, and255 _, by omega, by omega⟩
  · rw [if_neg c]
    exact ⟨_, _, _, rfl, and255 _, hi⟩
theorem below_ok (b : List Int) (i h n : Int) (hb : b.length ≤ 1048576) (hi : 0 ≤ i ∧ i ≤ (b.length : Int)) (hn : 1 ≤ n) (hn' : n ≤ 256) : ∃ x i' h', spec_l1Below.f b i h n = some (x, i', h') ∧ (0 ≤ x ∧ x < n) ∧ (0 ≤ i' ∧ i' ≤ (b.length : Int)) := by
  obtain ⟨x, i', h', e, hx, hi'⟩ := byte_ok b i h hb hi
  have c0 : ¬ n ≤ 0 := by omega
  have c2 : ¬ n = 0 := by omega
  refine ⟨Int.tmod x n, i', h', ?_, ⟨Int.tmod_nonneg n hx.1, Int.tmod_lt_of_pos x (by omega)⟩, hi'⟩
  unfold spec_l1Below.f
  rw [if_neg c0, if_pos hn', e]
  show (if n = 0 then none else some (Int.tmod x n, i', h')) = _
  rw [if_neg c2]
theorem pick_ok (b : List Int) (i h : Int) (l : List Int) (hb : b.length ≤ 1048576) (hi : 0 ≤ i ∧ i ≤ (b.length : Int)) (hn : 1 ≤ (l.length : Int)) (hn' : (l.length : Int) ≤ 256) : ∃ x i' h', spec_l1PickInt.f b i h l = some (x, i', h') ∧ (0 ≤ i' ∧ i' ≤ (b.length : Int)) := by
  obtain ⟨x, i', h', e, hx, hi'⟩ := below_ok b i h (l.length : Int) hb hi hn hn'
  refine ⟨rd l x, i', h', ?_, hi'⟩
  unfold spec_l1PickInt.f
  rw [e]
  show (if 0 ≤ x then (if x < (l.length : Int) then some (rd l x, i', h') else none) else none) = _
  rw [if_pos hx.1, if_pos hx.2]
theorem new_ok (b : List Int) (hb : b.length ≤ 1048576) : ∃ h, Ev (fun k => spec_l1New.f k b) (b, 0, h) := by
  have key : ∃ r, Ev (fun k => spec_l1New.l0 k b (wrap64 (10101 + (b.length : Int))) ((0 : Nat) : Int)) r ∧ ∃ h, r = (b, 0, h) := by
    refine ev_to (σ := Int) (fun s i k => spec_l1New.l0 k b s (i : Int)) b.length (fun _ _ => True) (fun r => ∃ h, r = (b, 0, h)) ?_ ?_ (wrap64 (10101 + (b.length : Int))) 0 (Nat.zero_le _) trivial
    · intro s i hi _ ih
      have h1 : (i : Int) < (b.length : Int) := by omega
      apply ex_succ
      simp only [spec_l1New.l0]
      rw [wrap_up hi (by omega)]
      exact ex_ite (fun _ => ex_ite (fun _ => ex_ite (fun _ => ih _ trivial) (fun c => absurd (Int.natCast_nonneg i) c)) (fun _ => ex_now ⟨_, rfl⟩)) (fun _ => ex_now ⟨_, rfl⟩)
    · intro s _
      apply ex_succ
      simp only [spec_l1New.l0]
      exact ex_ite (fun c => absurd c (Int.lt_irrefl _)) (fun _ => ex_now ⟨_, rfl⟩)
  obtain ⟨r, h, x, rfl⟩ := key
  exact ⟨x, h⟩
theorem chain_ok (b : List Int) (i h : Int) (hb : b.length ≤ 1048576) (hi : 0 ≤ i ∧ i ≤ (b.length : Int)) : ∃ r, Ev (fun k => spec_l3Chain.f k b i h) r ∧ (1 ≤ r.1.length ∧ r.1.length ≤ 6) ∧ (0 ≤ r.2.1 ∧ r.2.1 ≤ (b.length : Int)) := by
  have key : ∀ (m : Nat), m ≤ 5 → ∀ (xs : List S160) (s i h : Int), (0 ≤ i ∧ i ≤ (b.length : Int)) → 1 ≤ xs.length → xs.length + m ≤ 6 → ∃ r, Ev (fun k => spec_l3Chain.l0 k xs s (m : Int) b i h) r ∧ (1 ≤ r.1.length ∧ r.1.length ≤ 6) ∧ (0 ≤ r.2.1 ∧ r.2.1 ≤ (b.length : Int)) := by
    intro m
    induction m with
    | zero =>
      intro _ xs s i h hi h1 hx
      apply ex_succ
      simp only [spec_l3Chain.l0]
      exact ex_ite (fun c => absurd c (by simp)) (fun _ => ex_now ⟨⟨h1, hx⟩, hi⟩)
    | succ m ih =>
      intro hm xs s i h hi h1 hx
      have hw : wrap64 (((m + 1 : Nat) : Int) - 1) = (m : Int) := by unfold wrap64; omega
      have hl : wrap64 ((xs.length : Int) - 1) = ((xs.length - 1 : Nat) : Int) := wrap_down (by omega) (by omega)
      apply ex_succ
      simp only [spec_l3Chain.l0]
      rw [hw, hl]
      refine ex_ite (fun _ => ?_) (fun c => absurd (by omega) c)
      refine ex_ite (fun _ => ?_) (fun c => absurd (Int.natCast_nonneg _) c)
      refine ex_ite (fun _ => ?_) (fun c => absurd (by omega) c)
      obtain ⟨x, i1, h1', e1, _, hi1⟩ := below_ok b i h 3 hb hi (by decide) (by decide)
      refine ex_bind e1 (ex_bind rfl ?_)
      obtain ⟨y, i2, h2, e2, _, hi2⟩ := below_ok b i1 h1' 2 hb hi1 (by decide) (by decide)
      refine ex_bind e2 ?_
      obtain ⟨z, i3, h3, e3, _, hi3⟩ := below_ok b i2 h2 4 hb hi2 (by decide) (by decide)
      refine ex_bind e3 (ex_bind rfl ?_)
      obtain ⟨u, i4, h4, e4, _, hi4⟩ := below_ok b i3 h3 9 hb hi3 (by decide) (by decide)
      refine ex_bind e4 ?_
      obtain ⟨v, i5, h5, e5, hi5⟩ := pick_ok b i4 h4 [(-1), 0, 5, 7, 42, 99] hb hi4 (by decide) (by decide)
      refine ex_bind e5 ?_
      exact ex_ite (fun _ => ih (by omega) _ _ i5 h5 hi5 (by simp) (by simp; omega)) (fun c => absurd (by simp; omega) c)
  unfold spec_l3Chain.f
  obtain ⟨x, i1, h1, e1, hx, hi1⟩ := below_ok b i h 5 hb hi (by decide) (by decide)
  refine ex_bind e1 ?_
  obtain ⟨m, rfl⟩ := Int.eq_ofNat_of_zero_le hx.1
  exact key m (by omega) _ 0 i1 h1 hi1 (by simp) (by simp; omega)
theorem anychain_ok (b : List Int) (i h : Int) (hb : b.length ≤ 1048576) (hi : 0 ≤ i ∧ i ≤ (b.length : Int)) : ∃ r, Ev (fun k => spec_l3Any.f k b i h) r ∧ r.1.length ≤ 6 ∧ (0 ≤ r.2.1 ∧ r.2.1 ≤ (b.length : Int)) := by
  unfold spec_l3Any.f
  obtain ⟨⟨l, i1, h1⟩, e1, hl, hi1⟩ := chain_ok b i h hb hi
  dsimp only at hl hi1
  refine ex_bindE e1 ?_
  obtain ⟨x, i2, h2, e2, hx, hi2⟩ := below_ok b i1 h1 (l.length : Int) hb hi1 (by omega) (by omega)
  refine ex_bind e2 ?_
  obtain ⟨y, i3, h3, e3, _, hi3⟩ := below_ok b i2 h2 16 hb hi2 (by decide) (by decide)
  refine ex_bind e3 ?_
  have set_ : ∀ (p : List Int) (hp : 1 ≤ (p.length : Int)) (hp' : (p.length : Int) ≤ 256) (f : Int → S160), ∃ r, Ev (fun _ => (spec_l1PickInt.f b i3 h3 p).bind fun bt => (if 0 ≤ x then (if x < (l.length : Int) then (some ((l.set (x : Int).toNat (f bt.1)), bt.2.1, bt.2.2)) else (none)) else (none))) r ∧ r.1.length ≤ 6 ∧ (0 ≤ r.2.1 ∧ r.2.1 ≤ (b.length : Int)) := by
    intro p hp hp' f
    obtain ⟨z, i4, h4, e4, hi4⟩ := pick_ok b i3 h3 p hb hi3 hp hp'
    refine ex_bind e4 ?_
    exact ex_ite (fun _ => ex_ite (fun _ => ex_now ⟨by simp; omega, hi4⟩) (fun c => absurd hx.2 c)) (fun c => absurd hx.1 c)
  refine ex_ite (fun _ => set_ [0, 1, 3, 1000, 1001] (by decide) (by decide) (fun z => ⟨(rd_T160 l x).f0, (rd_T160 l x).f1, (rd_T160 l x).f2, (rd_T160 l x).f3, z⟩)) (fun _ => ?_)
  refine ex_ite (fun _ => set_ [(-1), 0, 999, 1000] (by decide) (by decide) (fun z => ⟨(rd_T160 l x).f0, (rd_T160 l x).f1, (rd_T160 l x).f2, z, (rd_T160 l x).f4⟩)) (fun _ => ?_)
  refine ex_ite (fun _ => set_ [(-2), 100, 99] (by decide) (by decide) (fun z => ⟨(rd_T160 l x).f0, z, (rd_T160 l x).f2, (rd_T160 l x).f3, (rd_T160 l x).f4⟩)) (fun _ => ?_)
  refine ex_ite (fun _ => ex_ite (fun _ => ex_now ⟨by simp; omega, hi3⟩) (fun c => absurd (show (1 : Int) ≤ (l.length : Int) by omega) c)) (fun _ => ?_)
  exact ex_ite (fun _ => set_ [0, 9, 10] (by decide) (by decide) (fun z => ⟨z, (rd_T160 l x).f1, (rd_T160 l x).f2, (rd_T160 l x).f3, (rd_T160 l x).f4⟩)) (fun _ => ex_now ⟨hl.2, hi3⟩)
theorem store_ok (b : List Int) (i h : Int) (hb : b.length ≤ 1048576) (hi : 0 ≤ i ∧ i ≤ (b.length : Int)) : ∃ r, Ev (fun k => spec_l4Store.f k b i h) r ∧ (r.1.length = 6 ∧ ∀ e ∈ r.1, e.length ≤ 6) ∧ (0 ≤ r.2.1 ∧ r.2.1 ≤ (b.length : Int)) := by
  have key : ∀ (m : Nat), m ≤ 6 → ∀ (xs : List (List S160)) (i h : Int), (0 ≤ i ∧ i ≤ (b.length : Int)) → xs.length = 6 - m → (∀ e ∈ xs, e.length ≤ 6) → ∃ r, Ev (fun k => spec_l4Store.l0 k ((6 - m : Nat) : Int) b i h xs) r ∧ (r.1.length = 6 ∧ ∀ e ∈ r.1, e.length ≤ 6) ∧ (0 ≤ r.2.1 ∧ r.2.1 ≤ (b.length : Int)) := by
    intro m
    induction m with
    | zero =>
      intro _ xs i h hi hx he
      apply ex_succ
      simp only [spec_l4Store.l0]
      exact ex_ite (fun c => absurd c (by decide)) (fun _ => ex_now ⟨⟨hx, he⟩, hi⟩)
    | succ m ih =>
      intro hm xs i h hi hx he
      have hw : wrap64 (((6 - (m + 1) : Nat) : Int) + 1) = ((6 - m : Nat) : Int) := by unfold wrap64; omega
      apply ex_succ
      simp only [spec_l4Store.l0]
      rw [hw]
      refine ex_ite (fun _ => ?_) (fun c => absurd (by omega) c)
      obtain ⟨⟨c, i1, h1⟩, e1, hc, hi1⟩ := chain_ok b i h hb hi
      refine ex_bindE e1 ?_
      refine ex_ite (fun _ => ih (by omega) _ i1 h1 hi1 (by simp; omega) (fun e he' => ?_)) (fun c => absurd (by omega) c)
      rw [List.mem_append, List.mem_singleton] at he'
      rcases he' with he' | rfl
      · exact he e he'
      · exact hc.2
  exact key 6 (Nat.le_refl _) [] i h hi rfl (fun e he => absurd he (by simp))
theorem anystore_ok (b : List Int) (i h : Int) (hb : b.length ≤ 1048576) (hi : 0 ≤ i ∧ i ≤ (b.length : Int)) : ∃ r, Ev (fun k => spec_l4Any.f k b i h) r ∧ (r.1.length ≤ 6 ∧ ∀ e ∈ r.1, e.length ≤ 6) ∧ (0 ≤ r.2.1 ∧ r.2.1 ≤ (b.length : Int)) := by
  unfold spec_l4Any.f
  obtain ⟨⟨l, i1, h1⟩, e1, hl, hi1⟩ := store_ok b i h hb hi
  dsimp only at hl hi1
  refine ex_bindE e1 ?_
  obtain ⟨x, i2, h2, e2, hx, hi2⟩ := below_ok b i1 h1 12 hb hi1 (by decide) (by decide)
  refine ex_bind e2 ?_
  refine ex_ite (fun _ => ?_) (fun _ => ex_ite (fun _ => ?_) (fun _ => ex_now ⟨⟨Nat.le_of_eq hl.1, hl.2⟩, hi2⟩))
  · obtain ⟨y, i3, h3, e3, hy, hi3⟩ := below_ok b i2 h2 6 hb hi2 (by decide) (by decide)
    refine ex_bind e3 ?_
    obtain ⟨⟨c, i4, h4⟩, e4, hc, hi4⟩ := anychain_ok b i3 h3 hb hi3
    refine ex_bindE e4 ?_
    refine ex_ite (fun _ => ex_ite (fun _ => ex_now ⟨⟨by simp; omega, fun e he => ?_⟩, hi4⟩) (fun c => absurd (show y < (l.length : Int) by omega) c)) (fun c => absurd hy.1 c)
    rcases List.mem_or_eq_of_mem_set he with he | rfl
    · exact hl.2 e he
    · exact hc
  · exact ex_ite (fun _ => ex_now ⟨⟨by simp; omega, fun e he => hl.2 e (List.mem_of_mem_drop he)⟩, hi2⟩) (fun c => absurd (show (1 : Int) ≤ (l.length : Int) by omega) c)
theorem l1In_eq (a b c : Int) : spec_l1In.f a b c = some (decide (b ≤ a) && decide (a ≤ c)) := by
  by_cases h : b ≤ a <;> simp [spec_l1In.f, h]
theorem in_eq (a b c : Int) : impl_in.f a b c = some (decide (b ≤ a) && decide (a ≤ c)) := by
  by_cases h : b ≤ a <;> simp [impl_in.f, h]
def vok (a0 a1 a2 a3 a4 : Int) : Bool := (decide (-1 ≤ a1) && decide (a1 ≤ 99)) && ((decide (0 ≤ a2) && decide (a2 ≤ 999)) && ((decide (a2 ≤ a3) && decide (a3 ≤ 999)) && ((decide (1 ≤ a4) && decide (a4 ≤ 1000)) && (if a2 = 0 then (if a0 = 0 then (a1 == -1) else false) else (decide (1 ≤ a0) && decide (a0 ≤ 9))))))
theorem version_both (a0 a1 a2 a3 a4 : Int) : Ev (fun k => spec_IsValidVersion.f k a0 a1 a2 a3 a4) (vok a0 a1 a2 a3 a4) ∧ Ev (fun k => impl_IsValidVersion.f k a0 a1 a2 a3 a4) (vok a0 a1 a2 a3 a4) := by
  have jS : ∀ t : Bool, Ev (fun k => spec_IsValidVersion.j0 k t a0 a1 a2 a3 a4) (!t && (if a2 = 0 then (if a0 = 0 then (a1 == -1) else false) else (decide (1 ≤ a0) && decide (a0 ≤ 9)))) := by
    intro t
    apply Ev.succ
    cases t
    · simp only [spec_IsValidVersion.j0, l1In_eq, Bool.false_eq_true, if_false, Option.bind_some, Bool.not_false, Bool.true_and]
      by_cases c : a2 = 0 <;> by_cases d : a0 = 0 <;> simp only [c, d, if_true, if_false] <;> exact Ev.now _
    · simp only [spec_IsValidVersion.j0, if_true, Bool.not_true, Bool.false_and]; exact Ev.now _
  have jI : ∀ t : Bool, Ev (fun k => impl_IsValidVersion.j0 k t a0 a1 a2 a3 a4) (!t && (if a2 = 0 then (if a0 = 0 then (a1 == -1) else false) else (decide (1 ≤ a0) && decide (a0 ≤ 9)))) := by
    intro t
    apply Ev.succ
    cases t
    · simp only [impl_IsValidVersion.j0, impl_isID.f, in_eq, Bool.false_eq_true, if_false, Option.bind_some, Bool.not_false, Bool.true_and]
      by_cases c : a2 = 0 <;> by_cases d : a0 = 0 <;> simp only [c, d, if_true, if_false] <;> exact Ev.now _
    · simp only [impl_IsValidVersion.j0, if_true, Bool.not_true, Bool.false_and]; exact Ev.now _
  unfold vok
  revert jS jI
  generalize (if a2 = 0 then (if a0 = 0 then (a1 == -1) else false) else (decide (1 ≤ a0) && decide (a0 ≤ 9))) = v
  intro jS jI
  constructor
  · unfold spec_IsValidVersion.f
    simp only [l1In_eq, Option.bind_some]
    cases (decide (-1 ≤ a1) && decide (a1 ≤ 99)) <;> cases (decide (0 ≤ a2) && decide (a2 ≤ 999)) <;> cases (decide (a2 ≤ a3) && decide (a3 ≤ 999)) <;> cases (decide (1 ≤ a4) && decide (a4 ≤ 1000)) <;> simp only [Bool.false_eq_true, if_false, if_true, Bool.false_and, Bool.true_and] <;> first | exact jS true | exact jS false
  · unfold impl_IsValidVersion.f
    simp only [impl_isValue.f, in_eq, Option.bind_some]
    cases (decide (-1 ≤ a1) && decide (a1 ≤ 99)) <;> cases (decide (0 ≤ a2) && decide (a2 ≤ 999)) <;> cases (decide (a2 ≤ a3) && decide (a3 ≤ 999)) <;> cases (decide (1 ≤ a4) && decide (a4 ≤ 1000)) <;> simp only [Bool.false_eq_true, if_false, if_true, Bool.false_and, Bool.true_and] <;> first | exact jI true | exact jI false
theorem vok_stamp {a0 a1 a2 a3 a4 : Int} (h : vok a0 a1 a2 a3 a4 = true) : 0 ≤ a2 ∧ a2 ≤ 999 := by
  unfold vok at h
  simp only [Bool.and_eq_true, decide_eq_true_eq] at h
  exact h.2.1
def vat (l : List S160) (j : Nat) : Bool := vok (rd_T160 l (j : Int)).f0 (rd_T160 l (j : Int)).f1 (rd_T160 l (j : Int)).f2 (rd_T160 l (j : Int)).f3 (rd_T160 l (j : Int)).f4
def step (l : List S160) (j : Nat) : Prop := (rd_T160 l (j : Int)).f2 < (rd_T160 l ((j + 1 : Nat) : Int)).f2 ∧ (rd_T160 l (j : Int)).f4 ≤ (rd_T160 l ((j + 1 : Nat) : Int)).f2
def VC (l : List S160) : Prop := (∀ j : Nat, j < l.length → vat l j = true) ∧ (∀ j : Nat, j + 1 < l.length → step l j) ∧ 0 < l.length ∧ (rd_T160 l ((l.length - 1 : Nat) : Int)).f4 = 1000
theorem chain_spec (l : List S160) (hl : l.length ≤ 1048576) : ∃ r, Ev (fun k => spec_IsValidChain.f k l) r ∧ (r = true ↔ VC l) := by
  refine ev_to (σ := Unit) (fun _ i k => spec_IsValidChain.l0 k l (i : Int)) l.length (fun _ i => (∀ j, j < i → vat l j = true) ∧ ∀ j, j < i → j + 1 < l.length → step l j) (fun r => r = true ↔ VC l) ?_ ?_ () 0 (Nat.zero_le _) ⟨fun j hj => absurd hj (by omega), fun j hj => absurd hj (by omega)⟩
  · rintro _ i hi ⟨hv, hs⟩ ih
    have h1 : (i : Int) < (l.length : Int) := by omega
    have e0 := wrap_up hi (by omega)
    have ev := (version_both (rd_T160 l (i : Int)).f0 (rd_T160 l (i : Int)).f1 (rd_T160 l (i : Int)).f2 (rd_T160 l (i : Int)).f3 (rd_T160 l (i : Int)).f4).1
    have hf : ∀ {P : Prop}, ¬ P → ((false = true) ↔ P) := fun h => ⟨fun h' => (nomatch h'), fun h' => absurd h' h⟩
    apply ex_succ
    simp only [spec_IsValidChain.l0]
    rw [e0]
    refine ex_ite (fun _ => ?_) (fun c => absurd h1 c)
    refine ex_ite (fun _ => ?_) (fun c => absurd (Int.natCast_nonneg i) c)
    refine ex_bindE ev ?_
    have hva : vat l i = vok (rd_T160 l (i : Int)).f0 (rd_T160 l (i : Int)).f1 (rd_T160 l (i : Int)).f2 (rd_T160 l (i : Int)).f3 (rd_T160 l (i : Int)).f4 := rfl
    refine ex_ite (fun c1 => ?_) (fun c1 => ex_now (hf (fun h => c1 (by rw [← hva]; exact h.1 i hi))))
    have hv' : ∀ j, j < i + 1 → vat l j = true := fun j hj => if hh : j < i then hv j hh else by obtain rfl : j = i := (by omega); rw [hva]; exact c1
    refine ex_ite (fun c2 => ?_) (fun c2 => ih () ⟨hv', fun j hj hjl => if hh : j < i then hs j hh hjl else by omega⟩)
    have c2' : i + 1 < l.length := by omega
    refine ex_ite (fun _ => ?_) (fun c => absurd (Int.natCast_nonneg _) c)
    refine ex_ite (fun c3 => ex_now (hf (fun h => by have := (h.2.1 i c2').1; omega))) (fun c3 => ?_)
    refine ex_ite (fun c4 => ex_now (hf (fun h => by have := (h.2.1 i c2').2; omega))) (fun c4 => ?_)
    exact ih () ⟨hv', fun j hj hjl => if hh : j < i then hs j hh hjl else by obtain rfl : j = i := (by omega); exact ⟨by omega, by omega⟩⟩
  · rintro _ ⟨hv, hs⟩
    have hf : ∀ {P : Prop}, ¬ P → ((false = true) ↔ P) := fun h => ⟨fun h' => (nomatch h'), fun h' => absurd h' h⟩
    apply ex_succ
    simp only [spec_IsValidChain.l0]
    refine ex_ite (fun c => absurd c (Int.lt_irrefl _)) (fun _ => ?_)
    refine ex_ite (fun c1 => ?_) (fun c1 => ex_now (hf (fun h => c1 (by have := h.2.2.1; omega))))
    have e1 : wrap64 ((l.length : Int) - 1) = ((l.length - 1 : Nat) : Int) := wrap_down (by omega) (by omega)
    rw [e1]
    refine ex_ite (fun _ => ?_) (fun c => absurd (Int.natCast_nonneg _) c)
    refine ex_ite (fun _ => ex_now ?_) (fun c => absurd (by omega) c)
    rw [beq_iff_eq]
    exact ⟨fun h => ⟨hv, fun j hj => hs j (by omega) hj, by omega, h⟩, fun h => h.2.2.2⟩
theorem chain_impl (l : List S160) (hl : l.length ≤ 1048576) : ∃ r, Ev (fun k => impl_IsValidChain.f k l) r ∧ (r = true ↔ VC l) := by
  refine ev_to (σ := Unit) (fun _ i k => impl_IsValidChain.l0 k l l (l.length : Int) (i : Int)) l.length (fun _ i => (∀ j, j < i → vat l j = true) ∧ ∀ j, j + 1 < i → step l j) (fun r => r = true ↔ VC l) ?_ ?_ () 0 (Nat.zero_le _) ⟨fun j hj => absurd hj (by omega), fun j hj => absurd hj (by omega)⟩
  · rintro _ i hi ⟨hv, hs⟩ ih
    have h1 : (i : Int) < (l.length : Int) := by omega
    have e0 := wrap_up hi (by omega)
    have ev := (version_both (rd_T160 l (i : Int)).f0 (rd_T160 l (i : Int)).f1 (rd_T160 l (i : Int)).f2 (rd_T160 l (i : Int)).f3 (rd_T160 l (i : Int)).f4).2
    have hf : ∀ {P : Prop}, ¬ P → ((false = true) ↔ P) := fun h => ⟨fun h' => (nomatch h'), fun h' => absurd h' h⟩
    have hva : vat l i = vok (rd_T160 l (i : Int)).f0 (rd_T160 l (i : Int)).f1 (rd_T160 l (i : Int)).f2 (rd_T160 l (i : Int)).f3 (rd_T160 l (i : Int)).f4 := rfl
    apply ex_succ
    simp only [impl_IsValidChain.l0]
    rw [e0]
    refine ex_ite (fun _ => ?_) (fun c => absurd h1 c)
    refine ex_ite (fun _ => ?_) (fun c => absurd (Int.natCast_nonneg i) c)
    refine ex_ite (fun _ => ?_) (fun c => absurd h1 c)
    refine ex_bindE ev ?_
    refine ex_ite (fun c1 => ?_) (fun c1 => ex_now (hf (fun h => c1 (by rw [← hva]; exact h.1 i hi))))
    have hv' : ∀ j, j < i + 1 → vat l j = true := fun j hj => if hh : j < i then hv j hh else by obtain rfl : j = i := (by omega); rw [hva]; exact c1
    refine ex_ite (fun c2 => ?_) (fun c2 => ih () ⟨hv', fun j hj => if hh : j + 1 < i then hs j hh else by omega⟩)
    have e1 : wrap64 ((i : Int) - 1) = ((i - 1 : Nat) : Int) := wrap_down (by omega) (by omega)
    rw [e1]
    refine ex_ite (fun _ => ?_) (fun c => absurd (Int.natCast_nonneg _) c)
    refine ex_ite (fun _ => ?_) (fun c => absurd (by omega) c)
    have hst : ∀ h : VC l, step l (i - 1) := fun h => h.2.1 (i - 1) (by omega)
    have hi1 : i - 1 + 1 = i := by omega
    refine ex_ite (fun c3 => ex_now (hf (fun h => by have := (hst h).1; rw [hi1] at this; omega))) (fun c3 => ?_)
    refine ex_ite (fun c4 => ex_now (hf (fun h => by have := (hst h).2; rw [hi1] at this; omega))) (fun c4 => ?_)
    exact ih () ⟨hv', fun j hj => if hh : j + 1 < i then hs j hh else by obtain rfl : j = i - 1 := (by omega); exact ⟨by rw [hi1]; omega, by rw [hi1]; omega⟩⟩
  · rintro _ ⟨hv, hs⟩
    have hf : ∀ {P : Prop}, ¬ P → ((false = true) ↔ P) := fun h => ⟨fun h' => (nomatch h'), fun h' => absurd h' h⟩
    apply ex_succ
    simp only [impl_IsValidChain.l0]
    refine ex_ite (fun c => absurd c (Int.lt_irrefl _)) (fun _ => ?_)
    refine ex_ite (fun c1 => ?_) (fun c1 => ex_now (hf (fun h => c1 (by have := h.2.2.1; omega))))
    have e1 : wrap64 ((l.length : Int) - 1) = ((l.length - 1 : Nat) : Int) := wrap_down (by omega) (by omega)
    rw [e1]
    refine ex_ite (fun _ => ?_) (fun c => absurd (Int.natCast_nonneg _) c)
    refine ex_ite (fun _ => ex_now ?_) (fun c => absurd (by omega) c)
    rw [beq_iff_eq]
    exact ⟨fun h => ⟨hv, fun j hj => hs j (by omega), by omega, h⟩, fun h => h.2.2.2⟩
theorem store_both (l : List (List S160)) (hl : l.length ≤ 1048576) (he : ∀ e ∈ l, e.length ≤ 1048576) : ∃ r, Ev (fun k => spec_IsValidStore.f k l) r ∧ Ev (fun k => impl_IsValidStore.f k l) r ∧ (r = true ↔ (∀ e ∈ l, VC e ∧ e.length ≤ 50) ∧ l.length = 6) := by
  have hf : ∀ {P : Prop}, ¬ P → ((false = true) ↔ P) := fun h => ⟨fun h' => (nomatch h'), fun h' => absurd h' h⟩
  have hS : ∃ r, Ev (fun k => spec_IsValidStore.f k l) r ∧ (r = true ↔ (∀ e ∈ l, VC e ∧ e.length ≤ 50) ∧ l.length = 6) := by
    refine ev_to (σ := Unit) (fun _ i k => spec_IsValidStore.l0 k (i : Int) l) l.length (fun _ i => ∀ j (hj : j < l.length), j < i → VC l[j] ∧ l[j].length ≤ 50) (fun r => r = true ↔ (∀ e ∈ l, VC e ∧ e.length ≤ 50) ∧ l.length = 6) ?_ ?_ () 0 (Nat.zero_le _) (fun j _ hj => absurd hj (by omega))
    · intro _ i hi hI ih
      have h1 : (i : Int) < (l.length : Int) := by omega
      have hrd : rd_L3 l (i : Int) = l[i] := by simp [rd_L3, hi]
      obtain ⟨r, er, hr⟩ := chain_spec l[i] (he _ (List.getElem_mem hi))
      apply ex_succ
      simp only [spec_IsValidStore.l0]
      rw [wrap_up hi (by omega), hrd]
      refine ex_ite (fun _ => ?_) (fun c => absurd h1 c)
      refine ex_ite (fun _ => ?_) (fun c => absurd (Int.natCast_nonneg i) c)
      refine ex_bindE er ?_
      refine ex_ite (fun c1 => ?_) (fun c1 => ex_now (hf (fun h => c1 (hr.2 (h.1 _ (List.getElem_mem hi)).1))))
      have hvc := hr.1 c1
      have hnext : l[i].length ≤ 50 → ∀ j (hj : j < l.length), j < i + 1 → VC l[j] ∧ l[j].length ≤ 50 := fun h50 j hj hji => if hh : j < i then hI j hj hh else by obtain rfl : j = i := (by omega); exact ⟨hvc, h50⟩
      have hbig : (l[i].length : Int) > 50 → ¬ ((∀ e ∈ l, VC e ∧ e.length ≤ 50) ∧ l.length = 6) := fun h h' => by have := (h'.1 _ (List.getElem_mem hi)).2; omega
      refine ex_ite (fun _ => ?_) (fun c => absurd (by have := hvc.2.2.1; omega) c)
      exact ex_ite (fun _ => ex_ite (fun c => ex_now (hf (hbig c))) (fun c => ih () (hnext (by omega)))) (fun _ => ex_ite (fun c => ex_now (hf (hbig c))) (fun c => ih () (hnext (by omega))))
    · intro _ hI
      apply ex_succ
      simp only [spec_IsValidStore.l0]
      refine ex_ite (fun c => absurd c (Int.lt_irrefl _)) (fun _ => ex_now ?_)
      rw [beq_iff_eq]
      refine ⟨fun h => ⟨fun e hm => ?_, by omega⟩, fun h => by omega⟩
      obtain ⟨j, hj, rfl⟩ := List.getElem_of_mem hm
      exact hI j hj hj
  have hI : ∃ r, Ev (fun k => impl_IsValidStore.f k l) r ∧ (r = true ↔ (∀ e ∈ l, VC e ∧ e.length ≤ 50) ∧ l.length = 6) := by
    unfold impl_IsValidStore.f
    refine ex_ite (fun c => ?_) (fun c => ex_now (hf (fun h => c (by omega))))
    have key : ∃ q, Ev (fun k => impl_Version_212.f k l) q ∧ ((decide (q ≥ 0) = false) ↔ (∀ e ∈ l, VC e ∧ e.length ≤ 50)) := by
      refine ev_to (σ := Unit) (fun _ i k => impl_Version_212.l0 k l (l.length : Int) (i : Int)) l.length (fun _ i => ∀ j (hj : j < l.length), j < i → VC l[j] ∧ l[j].length ≤ 50) (fun q => (decide (q ≥ 0) = false) ↔ (∀ e ∈ l, VC e ∧ e.length ≤ 50)) ?_ ?_ () 0 (Nat.zero_le _) (fun j _ hj => absurd hj (by omega))
      · intro _ i hi hI ih
        have h1 : (i : Int) < (l.length : Int) := by omega
        have hrd : rd_L3 l (i : Int) = l[i] := by simp [rd_L3, hi]
        obtain ⟨r, er, hr⟩ := chain_impl l[i] (he _ (List.getElem_mem hi))
        have e1 : ∃ t, Ev (fun k => impl_IsValidStore_1.f k l[i]) t ∧ (t = true ↔ ¬ (VC l[i] ∧ l[i].length ≤ 50)) := by
          unfold impl_IsValidStore_1.f
          refine ex_bindE er ?_
          refine ex_ite (fun c1 => ex_now ?_) (fun c1 => ex_now ⟨fun _ h => c1 (hr.2 h.1), fun _ => rfl⟩)
          rw [decide_eq_true_eq]
          exact ⟨fun h h' => by have := h'.2; omega, fun h => by
            by_cases q : l[i].length ≤ 50
            · exact absurd ⟨hr.1 c1, q⟩ h
            · omega⟩
        obtain ⟨t, et, htt⟩ := e1
        apply ex_succ
        simp only [impl_Version_212.l0]
        rw [wrap_up hi (by omega), hrd]
        refine ex_ite (fun _ => ?_) (fun c => absurd h1 c)
        refine ex_ite (fun _ => ?_) (fun c => absurd (Int.natCast_nonneg i) c)
        refine ex_ite (fun _ => ?_) (fun c => absurd h1 c)
        refine ex_bindE et ?_
        refine ex_ite (fun c1 => ex_now ?_) (fun c1 => ih () (fun j hj hji => if hh : j < i then hI j hj hh else by
          obtain rfl : j = i := by omega
          exact Classical.byContradiction (fun h => c1 (htt.2 h))))
        have hn := htt.1 c1
        have : decide ((i : Int) ≥ 0) = true := decide_eq_true (Int.natCast_nonneg i)
        rw [this]
        exact ⟨fun h => (nomatch h), fun h => absurd (h _ (List.getElem_mem hi)) hn⟩
      · intro _ hI
        apply ex_succ
        simp only [impl_Version_212.l0]
        refine ex_ite (fun c => absurd c (Int.lt_irrefl _)) (fun _ => ex_now ⟨fun _ e hm => ?_, fun _ => by decide⟩)
        obtain ⟨j, hj, rfl⟩ := List.getElem_of_mem hm
        exact hI j hj hj
    obtain ⟨q, eq, hq⟩ := key
    refine ex_bindE (a := decide (q ≥ 0)) (Ev.bind eq (Ev.now _)) (ex_now ?_)
    rw [Bool.not_eq_true']
    exact ⟨fun h => ⟨hq.1 h, by omega⟩, fun h => hq.2 h.1⟩
  obtain ⟨r, h1, h2⟩ := hS
  obtain ⟨r', h1', h2'⟩ := hI
  have : r = r' := by rw [Bool.eq_iff_iff]; exact h2.trans h2'.symm
  subst this
  exact ⟨r, h1, h1', h2⟩
/-- six nodes, one a key -/
def six (s : Nat → Int) : List S77 := [⟨0, 0, s 0⟩, ⟨1, 1, s 1⟩, ⟨2, 2, s 2⟩, ⟨3, 3, s 3⟩, ⟨4, 4, s 4⟩, ⟨5, 5, s 5⟩]
def upd (s : Nat → Int) (i : Nat) (t : Int) : Nat → Int := fun j => if j = i then t else s j
theorem six_get (s : Nat → Int) (i : Nat) (hi : i < 6) : rd_T77 (six s) (i : Int) = ⟨(i : Int), (i : Int), s i⟩ := by
  rcases (show i = 0 ∨ i = 1 ∨ i = 2 ∨ i = 3 ∨ i = 4 ∨ i = 5 by omega) with rfl | rfl | rfl | rfl | rfl | rfl <;> rfl
theorem six_index (s : Nat → Int) (hs : ∀ j, 0 ≤ s j ∧ s j ≤ 999) : Ev (fun k => spec_IsIndex.f k (six s)) true := by
  show Ev (fun k => spec_IsIndex.l0 k (six s) ((0 : Nat) : Int) ((0 : Nat) : Int)) true
  refine ev_up (σ := Unit) (fun _ i k => spec_IsIndex.l0 k (six s) (i : Int) (i : Int)) 6 (fun _ _ => True) (fun _ _ => true) ?_ ?_ () 0 (Nat.zero_le _) trivial
  · intro _ i hi _ ih
    have h1 : (i : Int) < ((six s).length : Int) := by simp [six]; omega
    have h5 : (i : Int) ≤ 5 := by omega
    have e0 : wrap64 ((i : Int) + 1) = ((i + 1 : Nat) : Int) := wrap_up hi (by omega)
    apply Ev.succ
    simp only [spec_IsIndex.l0, six_get s i hi, h1, h5, l1In_eq, (hs i).1, (hs i).2, e0, Int.natCast_nonneg, Int.le_refl, decide_true, Bool.and_self, if_true, Option.bind_some]
    exact ih () trivial
  · intro _ _
    apply Ev.succ
    simp [spec_IsIndex.l0, six]
    exact Ev.now _
theorem six_set (s : Nat → Int) (i : Nat) (hi : i < 6) (t : Int) : (six s).set i (⟨(i : Int), (i : Int), t⟩ : S77) = six (upd s i t) := by
  rcases (show i = 0 ∨ i = 1 ∨ i = 2 ∨ i = 3 ∨ i = 4 ∨ i = 5 by omega) with rfl | rfl | rfl | rfl | rfl | rfl <;> rfl
theorem upd_upd (s : Nat → Int) (i : Nat) (t u : Int) : upd (upd s i t) i u = upd s i u := by
  funext j
  unfold upd
  by_cases h : j = i <;> simp [h]
theorem mark_six (s : Nat → Int) (hs : ∀ j, 0 ≤ s j ∧ s j ≤ 999) (a : Nat) (ha : a < 6) (st : Int) (h0 : 0 ≤ st ∧ st ≤ 999) : Ev (fun k => spec_MarkIndex.f k (six s) (a : Int) st) (six (upd s a (mx (s a) st))) := by
  have hcap : ([] : List S77).length + (six s).length < 5864062014805 := by simp [six]
  have hcopy : spec_l16Copy.f (six s) = some (six s) := by simp only [spec_l16Copy.f, Option.bind_some, hcap, if_true, List.nil_append]
  have hx : ∀ i : Nat, (if a < i then six (upd s a (mx (s a) st)) else six s).length = 6 := by intro i; split <;> rfl
  unfold spec_MarkIndex.f
  simp only [hcopy, Option.bind_some]
  show Ev (fun k => spec_MarkIndex.l0 k (six s) (a : Int) st (six s) ((0 : Nat) : Int)) _
  refine ev_up (σ := List S77) (fun xs i k => spec_MarkIndex.l0 k (six s) (a : Int) st xs (i : Int)) 6 (fun xs i => xs = if a < i then six (upd s a (mx (s a) st)) else six s) (fun _ _ => six (upd s a (mx (s a) st))) ?_ ?_ (six s) 0 (Nat.zero_le _) (by simp)
  · rintro xs i hi hxs ih
    have hl : xs.length = 6 := by rw [hxs]; exact hx i
    have h1 : (i : Int) < (xs.length : Int) := by omega
    have hl0 : spec_l1In.f st 0 999 = some true := by rw [l1In_eq]; simp [h0.1, h0.2]
    have e0 : wrap64 ((i : Int) + 1) = ((i + 1 : Nat) : Int) := wrap_up hi (by omega)
    apply Ev.succ
    simp only [spec_MarkIndex.l0, h1, if_true]
    refine Ev.bind (six_index s hs) ?_
    simp only [if_true, hl0, Option.bind_some]
    apply Ev.succ
    by_cases c : a < i
    · have hg : rd_T77 xs (i : Int) = ⟨(i : Int), (i : Int), upd s a (mx (s a) st) i⟩ := by rw [hxs, if_pos c]; exact six_get _ i hi
      have hl1 : spec_l1In.f (a : Int) (i : Int) (i : Int) = some false := by
        rw [l1In_eq, show decide ((i : Int) ≤ (a : Int)) = false from decide_eq_false (by omega)]; rfl
      simp only [spec_MarkIndex.j1, h1, hg, hl1, e0, Int.natCast_nonneg, if_true, Option.bind_some, Bool.false_eq_true, if_false]
      exact ih _ (by rw [hxs, if_pos c, if_pos (by omega)])
    · have hxs' : xs = six s := by rw [hxs, if_neg c]
      have hg : rd_T77 xs (i : Int) = ⟨(i : Int), (i : Int), s i⟩ := by rw [hxs']; exact six_get _ i hi
      by_cases d : a = i
      · subst d
        have hl1 : spec_l1In.f (a : Int) (a : Int) (a : Int) = some true := by rw [l1In_eq]; simp
        simp only [spec_MarkIndex.j1, h1, hg, hl1, e0, Int.natCast_nonneg, Int.toNat_natCast, if_true, Option.bind_some]
        exact ih _ (by rw [hxs', six_set s a ha, if_pos (by omega)])
      · have hl1 : spec_l1In.f (a : Int) (i : Int) (i : Int) = some false := by
          rw [l1In_eq, show decide ((a : Int) ≤ (i : Int)) = false from decide_eq_false (by omega), Bool.and_false]
        simp only [spec_MarkIndex.j1, h1, hg, hl1, e0, Int.natCast_nonneg, if_true, Option.bind_some, Bool.false_eq_true, if_false]
        exact ih _ (by rw [hxs', if_neg (by omega)])
  · rintro xs hxs
    rw [if_pos ha] at hxs
    have h1 : ¬ ((6 : Nat) : Int) < (xs.length : Int) := by rw [hxs]; simp [six]
    apply Ev.succ
    simp only [spec_MarkIndex.l0, h1, if_false]
    apply Ev.succ
    simp only [spec_MarkIndex.j1, Bool.false_eq_true, if_false]
    exact Ev.some hxs
theorem split_now {l : List S77} {a : Int} {r : List S77 × Bool} (k : Nat) (h : spec_SplitNode.f k l a = some r) : Ev (fun k => spec_SplitNode.f k l a) r := Ev.of (fun k => spec_SplitNode.mono _ _ k) h
theorem split_six (l : List (List S160)) (r : List S77) (h : Ev (fun k => spec_IndexOf.l1 k (six (fun _ => 0)) 0 l) r) : Ev (fun k => spec_IndexOf.l0 k [(⟨0, 5, 0⟩ : S77)] 1 l) r := by
  have w1 : wrap64 ((1 : Int) + 1) = 2 := by unfold wrap64; omega
  have w2 : wrap64 ((2 : Int) + 1) = 3 := by unfold wrap64; omega
  have w3 : wrap64 ((3 : Int) + 1) = 4 := by unfold wrap64; omega
  have w4 : wrap64 ((4 : Int) + 1) = 5 := by unfold wrap64; omega
  have w5 : wrap64 ((5 : Int) + 1) = 6 := by unfold wrap64; omega
  apply Ev.succ
  simp only [spec_IndexOf.l0, show ((1 : Int) < 6) from by decide, if_true, w1]
  refine Ev.bind (split_now (r := ([⟨0, 0, 0⟩, ⟨1, 5, 0⟩], true)) 30 (by kernel_rfl)) ?_
  apply Ev.succ
  simp only [spec_IndexOf.l0, show ((2 : Int) < 6) from by decide, if_true, w2]
  refine Ev.bind (split_now (r := ([⟨0, 0, 0⟩, ⟨1, 1, 0⟩, ⟨2, 5, 0⟩], true)) 30 (by kernel_rfl)) ?_
  apply Ev.succ
  simp only [spec_IndexOf.l0, show ((3 : Int) < 6) from by decide, if_true, w3]
  refine Ev.bind (split_now (r := ([⟨0, 0, 0⟩, ⟨1, 1, 0⟩, ⟨2, 2, 0⟩, ⟨3, 5, 0⟩], true)) 30 (by kernel_rfl)) ?_
  apply Ev.succ
  simp only [spec_IndexOf.l0, show ((4 : Int) < 6) from by decide, if_true, w4]
  refine Ev.bind (split_now (r := ([⟨0, 0, 0⟩, ⟨1, 1, 0⟩, ⟨2, 2, 0⟩, ⟨3, 3, 0⟩, ⟨4, 5, 0⟩], true)) 30 (by kernel_rfl)) ?_
  apply Ev.succ
  simp only [spec_IndexOf.l0, show ((5 : Int) < 6) from by decide, if_true, w5]
  refine Ev.bind (split_now (r := (six (fun _ => 0), true)) 30 (by kernel_rfl)) ?_
  apply Ev.succ
  simp only [spec_IndexOf.l0, show ¬ ((6 : Int) < 6) from by decide, if_false]
  exact h
def chg (c : List S160) (j : Nat) : Bool := ((((rd_T160 c (j : Int)).f1) == (-1)) != (((rd_T160 c ((j - 1 : Nat) : Int)).f1) == (-1)))
def bounded (c : List S160) (t : Int) (n : Nat) : Prop := ∀ j, 1 ≤ j → j < n → chg c j = true → (rd_T160 c (j : Int)).f2 ≤ t
def SixOk (l : List (List S160)) (r : List S77) : Prop := ∃ s : Nat → Int, r = six s ∧ (∀ j, 0 ≤ s j ∧ s j ≤ 999) ∧ ∀ q (hq : q < l.length), bounded l[q] (s q) l[q].length
theorem both_IndexOf2 (l : List (List S160)) (hl : l.length ≤ 1048576) (he : ∀ e ∈ l, e.length ≤ 1048576) : ∃ r, Ev (fun k => spec_IndexOf.f k l) r ∧ Ev (fun k => impl_IndexOf.f k l) r ∧ ((r = [] ∧ Ev (fun k => spec_IsValidStore.f k l) false) ∨ (Ev (fun k => spec_IsValidStore.f k l) true ∧ (∀ e ∈ l, VC e ∧ e.length ≤ 50) ∧ l.length = 6 ∧ SixOk l r)) := by
  obtain ⟨v, eS, eI, hv⟩ := store_both l hl he
  by_cases hvt : v = true
  rotate_left 1
  · obtain rfl : v = false := by simpa using hvt
    refine ⟨[], ?_, ?_, .inl ⟨rfl, eS⟩⟩
    · unfold spec_IndexOf.f spec_NewIndex.f
      simp only [Option.bind_some]
      refine Ev.bind eS ?_
      simp only [Bool.false_eq_true, if_false]; exact Ev.now _
    · unfold impl_IndexOf.f
      refine Ev.bind eI ?_
      simp only [Bool.false_eq_true, if_false]; exact Ev.now _
  obtain ⟨hW, h6⟩ := hv.1 hvt
  subst hvt
  have main : ∃ r, Ev (fun k => spec_IndexOf.l1 k (six (fun _ => 0)) ((0 : Nat) : Int) l) r ∧ Ev (fun k => impl_IndexOf.l0 k ((six (fun _ => 0)).take 0) l (l.length : Int) ((0 : Nat) : Int)) r ∧ SixOk l r := by
    refine ev_both (σ := Nat → Int) (τ := Nat → Int) (fun s i k => spec_IndexOf.l1 k (six s) (i : Int) l) (fun s i k => impl_IndexOf.l0 k ((six s).take i) l (l.length : Int) (i : Int)) 6 (fun s t i => s = t ∧ (∀ j, 0 ≤ s j ∧ s j ≤ 999) ∧ (∀ j, i ≤ j → s j = 0) ∧ ∀ q (hq : q < l.length), q < i → bounded l[q] (s q) l[q].length) (fun r => SixOk l r) ?_ ?_ (fun _ => 0) (fun _ => 0) 0 (Nat.zero_le _) ⟨rfl, fun _ => ⟨by decide, by decide⟩, fun _ _ => rfl, fun q _ hq => absurd hq (by omega)⟩
    · rintro s _ i hi ⟨rfl, hs, hz, hbd⟩ ih
      have hil : i < l.length := by omega
      have h1 : (i : Int) < (l.length : Int) := by omega
      have h2 : (i : Int) < 6 := by omega
      have e0 : wrap64 ((i : Int) + 1) = ((i + 1 : Nat) : Int) := wrap_up hi (by omega)
      obtain ⟨c, hc⟩ : ∃ c, c = l[i] := ⟨_, rfl⟩
      have hrd : rd_L3 l (i : Int) = c := by rw [hc]; simp [rd_L3, hil]
      obtain ⟨hVC, h50⟩ := hW _ (List.getElem_mem hil)
      rw [← hc] at hVC h50
      have hst : ∀ j, j < c.length → 0 ≤ (rd_T160 c (j : Int)).f2 ∧ (rd_T160 c (j : Int)).f2 ≤ 999 := fun j hj => vok_stamp (hVC.1 j hj)
      have hpos := hVC.2.2.1
      have hsame : six (upd s i 0) = six s := by
        congr 1
        funext j
        unfold upd
        by_cases q : j = i
        · rw [if_pos q, q, hz i (Nat.le_refl _)]
        · rw [if_neg q]
      have inner : ∃ r, Ev (fun k => spec_IndexOf.l2 k (six (upd s i 0)) (i : Int) ((1 : Nat) : Int) l) r ∧ Ev (fun k => impl_IndexOf.l1 k ((six s).take i) c ((1 : Nat) : Int) l (l.length : Int) (i : Int) (i : Int) (i : Int) 0) r ∧ SixOk l r := by
        refine ev_both (σ := Int) (τ := Int) (fun t j k => spec_IndexOf.l2 k (six (upd s i t)) (i : Int) (j : Int) l) (fun t j k => impl_IndexOf.l1 k ((six s).take i) c (j : Int) l (l.length : Int) (i : Int) (i : Int) (i : Int) t) c.length (fun t u j => t = u ∧ 1 ≤ j ∧ 0 ≤ t ∧ t ≤ (rd_T160 c ((j - 1 : Nat) : Int)).f2 ∧ bounded c t j) (fun r => SixOk l r) ?_ ?_ 0 0 1 hpos ⟨rfl, Nat.le_refl _, Int.le_refl _, (hst 0 hpos).1, fun j h1 h2 => absurd h1 (by omega)⟩
        · rintro t _ j hj ⟨rfl, hj1, ht0, ht1, hbj⟩ ih2
          have g1 : (j : Int) < (c.length : Int) := by omega
          have e1 : wrap64 ((j : Int) + 1) = ((j + 1 : Nat) : Int) := wrap_up hj (by omega)
          have e2 : wrap64 ((j : Int) - 1) = ((j - 1 : Nat) : Int) := wrap_down (by omega) (by omega)
          have g2 : ((j - 1 : Nat) : Int) < (c.length : Int) := by omega
          have hj11 : j - 1 + 1 = j := by omega
          have hlt := (hVC.2.1 (j - 1) (by omega)).1
          rw [hj11] at hlt
          have hsj := hst j hj
          cases hch : ((((rd_T160 c (j : Int)).f1) == (-1)) != (((rd_T160 c ((j - 1 : Nat) : Int)).f1) == (-1)))
          · obtain ⟨r, es, et, hR⟩ := ih2 t t ⟨rfl, by omega, ht0, by rw [Nat.add_sub_cancel]; omega, fun j2 g1 g2 g3 => if hh : j2 < j then hbj j2 g1 hh g3 else by obtain rfl : j2 = j := (by omega); unfold chg at g3; rw [hch] at g3; exact absurd g3 (by simp)⟩
            refine ⟨r, Ev.succ ?_, Ev.succ ?_, hR⟩
            · simp only [spec_IndexOf.l2, hrd, h1, g1, g2, e1, e2, hch, Int.natCast_nonneg, if_true, Bool.false_eq_true, if_false]; exact es
            · simp only [impl_IndexOf.l1, g1, g2, e1, e2, hch, Int.natCast_nonneg, if_true, Bool.false_eq_true, if_false]; exact et
          · obtain ⟨r, es, et, hR⟩ := ih2 (rd_T160 c (j : Int)).f2 _ ⟨rfl, by omega, hsj.1, by rw [Nat.add_sub_cancel]; exact Int.le_refl _, fun j2 g1 g2 g3 => if hh : j2 < j then (by have := hbj j2 g1 hh g3; omega) else by obtain rfl : j2 = j := (by omega); exact Int.le_refl _⟩
            have hb : ∀ q, 0 ≤ upd s i t q ∧ upd s i t q ≤ 999 := by
              intro q
              unfold upd
              split
              · omega
              · exact hs q
            have em := mark_six (upd s i t) hb i hi (rd_T160 c (j : Int)).f2 hsj
            have hmx : mx (upd s i t i) (rd_T160 c (j : Int)).f2 = (rd_T160 c (j : Int)).f2 := by
              have : upd s i t i = t := by simp [upd]
              rw [this]; unfold mx; omega
            rw [hmx, upd_upd] at em
            refine ⟨r, Ev.succ ?_, Ev.succ ?_, hR⟩
            · simp only [spec_IndexOf.l2, hrd, h1, g1, g2, e1, e2, hch, Int.natCast_nonneg, if_true]
              exact Ev.bind em es
            · simp only [impl_IndexOf.l1, g1, g2, e1, e2, hch, Int.natCast_nonneg, if_true]; exact et
        · rintro t _ ⟨rfl, _, ht0, ht1, hbj⟩
          have hlast := hst (c.length - 1) (by omega)
          obtain ⟨r, es, et, hR⟩ := ih (upd s i t) _ ⟨rfl, fun q => by
            unfold upd
            split
            · omega
            · exact hs q, fun q hq => by
            unfold upd
            rw [if_neg (by omega)]; exact hz q (by omega), fun q hq hqi => by
            unfold upd
            by_cases g : q = i
            · subst g; rw [if_pos rfl, ← hc]; exact hbj
            · rw [if_neg g]; exact hbd q hq (by omega)⟩
          have hlen : ((six s).take i).length < 5864062014805 := by rw [List.length_take]; simp [six]; omega
          have htk : (six s).take i ++ [(⟨(i : Int), (i : Int), t⟩ : S77)] = (six (upd s i t)).take (i + 1) := by
            rcases (show i = 0 ∨ i = 1 ∨ i = 2 ∨ i = 3 ∨ i = 4 ∨ i = 5 by omega) with rfl | rfl | rfl | rfl | rfl | rfl <;> rfl
          refine ⟨r, Ev.succ ?_, Ev.succ ?_, hR⟩
          · simp only [spec_IndexOf.l2, hrd, h1, e0, Int.natCast_nonneg, Int.lt_irrefl, if_true, if_false]; exact es
          · simp only [impl_IndexOf.l1, hlen, htk, e0, Int.lt_irrefl, if_true, if_false]; exact et
      rw [hsame] at inner
      obtain ⟨r, es, et, hR⟩ := inner
      refine ⟨r, Ev.succ ?_, Ev.succ ?_, hR⟩
      · simp only [spec_IndexOf.l1, h2, if_true]; exact es
      · simp only [impl_IndexOf.l0, h1, hrd, Int.natCast_nonneg, if_true]; exact et
    · rintro s _ ⟨rfl, hs, _, hbd⟩
      have h1 : ¬ ((6 : Nat) : Int) < (l.length : Int) := by omega
      refine ⟨six s, Ev.succ ?_, Ev.succ ?_, s, rfl, hs, fun q hq => hbd q hq (by omega)⟩
      · simp only [spec_IndexOf.l1, show ¬ (((6 : Nat) : Int) < 6) from by decide, if_false]; exact Ev.now _
      · simp only [impl_IndexOf.l0, h1, if_false]; exact Ev.some rfl
  obtain ⟨r, m1, m2, m3⟩ := main
  refine ⟨r, ?_, ?_, .inr ⟨eS, hW, h6, m3⟩⟩
  · unfold spec_IndexOf.f spec_NewIndex.f
    simp only [Option.bind_some]
    refine Ev.bind eS ?_
    simp only [if_true]
    exact split_six l r m1
  · unfold impl_IndexOf.f
    refine Ev.bind eI ?_
    simp only [if_true]; exact m2
def Ix : Int → List S77 → Prop
  | n, [] => n = 6
  | n, x :: l => x.f0 = n ∧ (x.f0 ≤ x.f1 ∧ x.f1 ≤ 5) ∧ (0 ≤ x.f2 ∧ x.f2 ≤ 999) ∧ Ix (x.f1 + 1) l
theorem rdI (l : List S77) (i : Nat) (hi : i < l.length) : rd_T77 l (i : Int) = l[i] := by simp [rd_T77, hi]
theorem ix_lo0 : ∀ {n : Int} {l : List S77}, Ix n l → ∀ e ∈ l, n ≤ e.f0 ∧ (e.f0 ≤ e.f1 ∧ e.f1 ≤ 5) ∧ (0 ≤ e.f2 ∧ e.f2 ≤ 999)
  | _, [], _, e, he => absurd he (by simp)
  | n, x :: l, h, e, he => by
    rcases List.mem_cons.1 he with rfl | hm
    · exact ⟨by rw [h.1]; exact Int.le_refl _, h.2.1, h.2.2.1⟩
    · have := ix_lo0 h.2.2.2 e hm
      have h1 := h.1
      have h2 := h.2.1
      exact ⟨by omega, this.2⟩
theorem ix_lo {l : List S77} (h : Ix 0 l) (e : S77) (he : e ∈ l) : 0 ≤ e.f1 := by
  have := ix_lo0 h e he; omega
theorem ix_n : ∀ {n : Int} {l : List S77}, Ix n l → n ≤ 6 ∧ l.length + n ≤ 6
  | _, [], h => by simp only [Ix] at h; simp; omega
  | n, x :: l, h => by
    have := ix_n h.2.2.2
    have h1 := h.1
    have h2 := h.2.1
    rw [List.length_cons]; omega
theorem ix_pair : ∀ {n : Int} {l : List S77}, Ix n l → l.Pairwise (fun x y => x.f1 < y.f0)
  | _, [], _ => List.Pairwise.nil
  | n, x :: l, h => by
    refine List.Pairwise.cons (fun y hy => ?_) (ix_pair h.2.2.2)
    have := (ix_lo0 h.2.2.2 y hy).1; omega
theorem ix_asc {l : List S77} (h : Ix 0 l) : ∀ i j : Nat, i < j → j < l.length → (rd_T77 l (i : Int)).f1 < (rd_T77 l (j : Int)).f0 := by
  intro i j hij hj
  rw [rdI l i (by omega), rdI l j hj]
  exact List.pairwise_iff_getElem.1 (ix_pair h) i j (by omega) hj hij
theorem index_both (l : List S77) (hl : l.length ≤ 1048576) : ∃ r, Ev (fun k => spec_IsIndex.f k l) r ∧ Ev (fun k => impl_IsIndex.f k l) r ∧ (r = true ↔ Ix 0 l) := by
  refine ev_both (σ := Int) (τ := Int) (fun s i k => spec_IsIndex.l0 k l s (i : Int)) (fun s i k => impl_IsIndex.l0 k s l (l.length : Int) (i : Int)) l.length (fun s t i => s = t ∧ 0 ≤ s ∧ (Ix 0 l ↔ Ix s (l.drop i))) (fun r => r = true ↔ Ix 0 l) ?_ ?_ 0 0 0 (Nat.zero_le _) ⟨rfl, Int.le_refl _, Iff.rfl⟩
  · rintro s _ i hi ⟨rfl, hs0, hI⟩ ih
    have h1 : (i : Int) < (l.length : Int) := by omega
    have e0 := wrap_up hi (by omega)
    have hrd := rdI l i hi
    rw [List.drop_eq_getElem_cons hi] at hI
    simp only [Ix] at hI
    have hf : ∀ {P : Prop}, ¬ P → ((false = true) ↔ P) := fun h => ⟨fun h' => (nomatch h'), fun h' => absurd h' h⟩
    by_cases c0 : l[i].f0 = s
    · by_cases c1 : l[i].f0 ≤ l[i].f1 ∧ l[i].f1 ≤ 5
      · have i1 : (decide (l[i].f0 ≤ l[i].f1) && decide (l[i].f1 ≤ 5)) = true := by simp [c1]
        by_cases c2 : 0 ≤ l[i].f2 ∧ l[i].f2 ≤ 999
        · have i2 : (decide (0 ≤ l[i].f2) && decide (l[i].f2 ≤ 999)) = true := by simp [c2]
          have hw : wrap64 (l[i].f1 + 1) = l[i].f1 + 1 := wrap_in (by omega) (by omega)
          obtain ⟨r, e1, e2, hR⟩ := ih (l[i].f1 + 1) (l[i].f1 + 1) ⟨rfl, by omega, by rw [hI]; exact ⟨fun h => h.2.2.2, fun h => ⟨c0, c1, c2, h⟩⟩⟩
          refine ⟨r, Ev.succ ?_, Ev.succ ?_, hR⟩
          · simp only [spec_IsIndex.l0, l1In_eq, hrd, h1, i1, i2, e0, hw, Option.bind_some, Int.natCast_nonneg, if_true, if_pos c0]; exact e1
          · simp only [impl_IsIndex.l0, in_eq, hrd, h1, i1, i2, e0, hw, Option.bind_some, Int.natCast_nonneg, if_true, if_pos c0]; exact e2
        · have i2 : (decide (0 ≤ l[i].f2) && decide (l[i].f2 ≤ 999)) = false := by
            rw [Bool.and_eq_false_iff, decide_eq_false_iff_not, decide_eq_false_iff_not]; omega
          refine ⟨false, Ev.succ ?_, Ev.succ ?_, hf (fun h => c2 (hI.1 h).2.2.1)⟩
          · simp only [spec_IsIndex.l0, l1In_eq, hrd, h1, i1, i2, Option.bind_some, Int.natCast_nonneg, if_true, if_pos c0, Bool.false_eq_true, if_false]; exact Ev.now _
          · simp only [impl_IsIndex.l0, in_eq, hrd, h1, i1, i2, Option.bind_some, Int.natCast_nonneg, if_true, if_pos c0, Bool.false_eq_true, if_false]; exact Ev.now _
      · have i1 : (decide (l[i].f0 ≤ l[i].f1) && decide (l[i].f1 ≤ 5)) = false := by
          rw [Bool.and_eq_false_iff, decide_eq_false_iff_not, decide_eq_false_iff_not]; omega
        refine ⟨false, Ev.succ ?_, Ev.succ ?_, hf (fun h => c1 (hI.1 h).2.1)⟩
        · simp only [spec_IsIndex.l0, l1In_eq, hrd, h1, i1, Option.bind_some, Int.natCast_nonneg, if_true, if_pos c0, Bool.false_eq_true, if_false]; exact Ev.now _
        · simp only [impl_IsIndex.l0, in_eq, hrd, h1, i1, Option.bind_some, Int.natCast_nonneg, if_true, if_pos c0, Bool.false_eq_true, if_false]; exact Ev.now _
    · refine ⟨false, Ev.succ ?_, Ev.succ ?_, hf (fun h => c0 (hI.1 h).1)⟩
      · simp only [spec_IsIndex.l0, hrd, h1, Int.natCast_nonneg, if_true, if_neg c0]; exact Ev.now _
      · simp only [impl_IsIndex.l0, hrd, h1, Int.natCast_nonneg, if_true, if_neg c0]; exact Ev.now _
  · rintro s _ ⟨rfl, _, hI⟩
    rw [List.drop_length] at hI
    simp only [Ix] at hI
    refine ⟨s == 6, Ev.succ ?_, Ev.succ ?_, by rw [beq_iff_eq]; exact hI.symm⟩
    · simp only [spec_IsIndex.l0, Int.lt_irrefl, if_false]; exact Ev.now _
    · simp only [impl_IsIndex.l0, Int.lt_irrefl, if_false]; exact Ev.now _
theorem ix_split : ∀ {n : Int} {l : List S77} (a : Int) (t : Nat) (ht : t < l.length), 0 ≤ n → Ix n l → l[t].f0 < a → a ≤ l[t].f1 → Ix n (l.take t ++ [(⟨l[t].f0, wrap64 (a - 1), l[t].f2⟩ : S77), (⟨a, l[t].f1, l[t].f2⟩ : S77)] ++ l.drop (t + 1))
  | _, [], _, t, ht, _, _, _, _ => absurd ht (by simp)
  | n, x :: l, a, 0, _, hn, h, h0, h1 => by
    simp only [List.getElem_cons_zero] at h0 h1
    have hx := h.2.1
    have hw : wrap64 (a - 1) = a - 1 := wrap_in (by have := h.1; omega) (by omega)
    simp only [List.take_zero, List.nil_append, List.getElem_cons_zero, Nat.zero_add, List.drop_succ_cons, List.drop_zero, List.cons_append, Ix, hw]
    exact ⟨h.1, ⟨by omega, by omega⟩, h.2.2.1, by omega, ⟨by omega, by omega⟩, h.2.2.1, h.2.2.2⟩
  | n, x :: l, a, t + 1, ht, hn, h, h0, h1 => by
    simp only [List.getElem_cons_succ] at h0 h1
    have ih := ix_split a t (by simpa using ht) (by have := h.1; have := h.2.1; omega) h.2.2.2 h0 h1
    simp only [List.take_succ_cons, List.getElem_cons_succ, List.drop_succ_cons, List.cons_append, Ix]
    exact ⟨h.1, h.2.1, h.2.2.1, ih⟩
theorem ix_map : ∀ {n : Int} {l : List S77} (g : S77 → S77), (∀ e ∈ l, (g e).f0 = e.f0 ∧ (g e).f1 = e.f1 ∧ (0 ≤ (g e).f2 ∧ (g e).f2 ≤ 999)) → Ix n l → Ix n (l.map g)
  | _, [], _, _, h => h
  | n, x :: l, g, hg, h => by
    obtain ⟨g0, g1, g2⟩ := hg x (List.mem_cons_self ..)
    simp only [List.map_cons, Ix, g0, g1]
    exact ⟨h.1, h.2.1, g2, ix_map g (fun e he => hg e (List.mem_cons_of_mem _ he)) h.2.2.2⟩
theorem ix_cover : ∀ {n : Int} {l : List S77} (a : Int), Ix n l → n ≤ a → a ≤ 5 → ∃ e ∈ l, e.f0 ≤ a ∧ a ≤ e.f1
  | _, [], a, h, h0, h1 => by simp only [Ix] at h; omega
  | n, x :: l, a, h, h0, h1 => by
    by_cases c : a ≤ x.f1
    · exact ⟨x, List.mem_cons_self .., by have := h.1; omega, c⟩
    · obtain ⟨e, he, g⟩ := ix_cover a h.2.2.2 (by omega) h1
      exact ⟨e, List.mem_cons_of_mem _ he, g⟩
theorem ev_first (p : S77 → Bool) (a b : Int) (hp : ∀ e : S77, impl_NodesFor_1.f e.f0 e.f1 e.f2 a b = some (p e)) (l : List S77) (hl : l.length ≤ 1048576) : ∃ q, Ev (fun k => impl_IndexNode_156.f k l a b) q ∧ ((q = -1 ∧ ∀ j (hj : j < l.length), p l[j] = false) ∨ (∃ t : Nat, ∃ ht : t < l.length, q = (t : Int) ∧ p l[t] = true ∧ ∀ j (hj : j < l.length), j < t → p l[j] = false)) := by
  show ∃ q, Ev (fun k => impl_IndexNode_156.l0 k l (l.length : Int) ((0 : Nat) : Int) a b) q ∧ _
  refine ev_to (σ := Unit) (fun _ i k => impl_IndexNode_156.l0 k l (l.length : Int) (i : Int) a b) l.length (fun _ i => ∀ j (hj : j < l.length), j < i → p l[j] = false) (fun q => (q = -1 ∧ ∀ j (hj : j < l.length), p l[j] = false) ∨ (∃ t : Nat, ∃ ht : t < l.length, q = (t : Int) ∧ p l[t] = true ∧ ∀ j (hj : j < l.length), j < t → p l[j] = false)) ?_ ?_ () 0 (Nat.zero_le _) (fun j hj h => absurd h (by omega))
  · intro _ i hi hI ih
    have h1 : (i : Int) < (l.length : Int) := by omega
    have e0 := wrap_up hi (by omega)
    have hrd : rd_T77 l (i : Int) = l[i] := by simp [rd_T77, hi]
    by_cases c : p (rd_T77 l (i : Int)) = true
    · refine ⟨(i : Int), Ev.succ ?_, .inr ⟨i, hi, rfl, by rw [← hrd]; exact c, hI⟩⟩
      simp only [impl_IndexNode_156.l0, h1, hp, c, Int.natCast_nonneg, if_true, Option.bind_some]; exact Ev.now _
    · have cb : p (rd_T77 l (i : Int)) = false := by simpa using c
      obtain ⟨q, hs, hR⟩ := ih () (fun j hj hji => if hh : j < i then hI j hj hh else by obtain rfl : j = i := (by omega); rw [← hrd]; exact cb)
      refine ⟨q, Ev.succ ?_, hR⟩
      simp only [impl_IndexNode_156.l0, h1, hp, cb, e0, Int.natCast_nonneg, if_true, if_false, Option.bind_some, Bool.false_eq_true]; exact hs
  · intro _ hI
    refine ⟨-1, Ev.succ ?_, .inl ⟨rfl, fun j hj => hI j hj hj⟩⟩
    simp only [impl_IndexNode_156.l0, Int.lt_irrefl, if_false]; exact Ev.now _
theorem ev_delete (p : S77 → Bool) (a b : Int) (hp : ∀ e : S77, impl_NodesFor_1.f e.f0 e.f1 e.f2 a b = some (p e)) (l : List S77) (hl : l.length ≤ 1048576) : Ev (fun k => impl_IndexNode_126.f k l a b) (l.filter (fun e => !p e)) := by
  obtain ⟨q, eq, hq⟩ := ev_first p a b hp l hl
  unfold impl_IndexNode_126.f
  refine Ev.bind eq ?_
  rcases hq with ⟨rfl, hn⟩ | ⟨t, ht, rfl, hpt, hn⟩
  · simp only [if_true, filter_none hn]; exact Ev.now _
  · have hne : ¬ ((t : Int) = -1) := by omega
    have e0 := wrap_up ht (by omega)
    simp only [hne, if_false, e0]
    refine ev_up (σ := List S77 × Nat) (fun s j k => impl_IndexNode_126.l0 k s.1 (s.2 : Int) (j : Int) a b) l.length (fun s j => Del p l s.1 s.2 j) (fun _ _ => l.filter (fun e => !p e)) ?_ ?_ (l, t) (t + 1) (by omega) (Del.start ht hpt hn)
    · rintro ⟨xs, i⟩ j hj hI ih
      have hlen := hI.1
      have hij := hI.2.1
      dsimp only at hlen hij hI ih ⊢
      have h1 : (j : Int) < (xs.length : Int) := by omega
      have hjx : j < xs.length := by omega
      have e1 := wrap_up hj (by omega)
      have hrd : rd_T77 xs (j : Int) = l[j] := by rw [← hI.get hjx hj]; simp [rd_T77, hjx]
      apply Ev.succ
      by_cases c : p (rd_T77 xs (j : Int)) = true
      · simp only [impl_IndexNode_126.l0, h1, hp, c, e1, Int.natCast_nonneg, if_true, Option.bind_some]
        exact ih (xs, i) (hI.skip hj (by rw [← hrd]; exact c))
      · have cb : p (rd_T77 xs (j : Int)) = false := by simpa using c
        have h2 : (i : Int) < (xs.length : Int) := by omega
        have e2 := wrap_up (show i < l.length by omega) (by omega)
        simp only [impl_IndexNode_126.l0, h1, h2, hp, cb, e1, e2, Int.natCast_nonneg, if_true, if_false, Option.bind_some, Bool.false_eq_true, Int.toNat_natCast]
        exact ih (xs.set i (rd_T77 xs (j : Int)), i + 1) (hI.keep hj (by rw [← hrd]; exact cb) hrd)
    · rintro ⟨xs, i⟩ hI
      have hlen := hI.1
      have hij := hI.2.1
      dsimp only at hlen hij hI ⊢
      have h1 : ¬ ((l.length : Int) < (xs.length : Int)) := by omega
      have h2 : (i : Int) ≤ (xs.length : Int) := by omega
      apply Ev.succ
      simp only [impl_IndexNode_126.l0, h1, h2, Int.natCast_nonneg, if_true, if_false, Int.toNat_natCast]
      refine Ev.some ?_
      rw [← hI.done]
      unfold clr
      rw [List.take_append_of_le_length (by rw [List.length_take]; omega), List.take_take, Nat.min_self]
theorem ev_filter (p : S77 → Bool) (a b : Int) (L : Nat → List S77 → Int → Option (List S77)) (l : List S77) (hl : l.length ≤ 1048576)
    (hstop : ∀ k ys, L (k + 1) ys (l.length : Int) = some ys)
    (hgo : ∀ k ys i (hi : i < l.length), ys.length ≤ 1048576 → L (k + 1) ys (i : Int) = if p l[i] = true then L k ys ((i + 1 : Nat) : Int) else L k (ys ++ [l[i]]) ((i + 1 : Nat) : Int)) : Ev (fun k => L k [] ((0 : Nat) : Int)) (l.filter (fun e => !p e)) := by
  refine ev_up (σ := List S77) (fun ys i k => L k ys (i : Int)) l.length (fun ys i => ys = (l.take i).filter (fun e => !p e)) (fun _ _ => l.filter (fun e => !p e)) ?_ ?_ [] 0 (Nat.zero_le _) (by simp)
  · rintro ys i hi rfl ih
    have hle : ((l.take i).filter (fun e => !p e)).length ≤ 1048576 := Nat.le_trans (List.length_filter_le ..) (by rw [List.length_take]; omega)
    apply Ev.succ
    simp only [hgo _ _ i hi hle]
    by_cases c : p l[i] = true
    · simp only [c, if_true]
      exact ih _ (by rw [take_succ_filter _ _ _ hi]; simp [c])
    · simp only [c, Bool.false_eq_true, if_false]
      exact ih _ (by rw [take_succ_filter _ _ _ hi]; simp [c])
  · rintro ys rfl
    apply Ev.succ
    simp only [hstop]
    exact Ev.some (by rw [List.take_length])
def inR (a b : Int) (e : S77) : Bool := decide (e.f0 ≤ b) && decide (a ≤ e.f1)
theorem inR_not (a b : Int) (l : List S77) : l.filter (fun e => !(decide (e.f1 < a) || decide (e.f0 > b))) = l.filter (inR a b) := by
  apply List.filter_congr
  intro e _
  unfold inR
  by_cases c : e.f1 < a <;> by_cases d : e.f0 > b <;> simp [c, d] <;> omega
theorem nodes_impl (l : List S77) (a b : Int) (hl : l.length ≤ 1048576) (h : Ix 0 l) (hab : a ≤ b) : Ev (fun k => impl_NodesFor.f k l a b) (l.filter (inR a b)) := by
  obtain ⟨ok, eS, eI, hI⟩ := index_both l hl
  obtain rfl := hI.2 h
  unfold impl_NodesFor.f
  refine Ev.bind eI ?_
  have hcap : ([] : List S77).length + l.length < 5864062014805 := by simp; omega
  have hclone : impl_IndexNode_127.f l = some l := by simp only [impl_IndexNode_127.f, Option.bind_some, hcap, if_true, List.nil_append]
  have hgt : decide (a > b) = false := decide_eq_false (by omega)
  simp only [if_true, hgt]
  apply Ev.succ
  simp only [impl_NodesFor.j0, Bool.false_eq_true, if_false, hclone, Option.bind_some]
  rw [← inR_not a b l]
  exact Ev.bind (ev_delete (fun e => decide (e.f1 < a) || decide (e.f0 > b)) a b (by intro e; by_cases c : e.f1 < a <;> simp [impl_NodesFor_1.f, c]) l hl) (Ev.now _)
theorem six_ix (s : Nat → Int) (hs : ∀ j, 0 ≤ s j ∧ s j ≤ 999) : Ix 0 (six s) := by
  have h := fun j => hs j
  simp only [six, Ix]
  exact ⟨trivial, by decide, h 0, by decide, by decide, h 1, by decide, by decide, h 2, by decide, by decide, h 3, by decide, by decide, h 4, by decide, by decide, h 5, by decide⟩
theorem six_at (s : Nat → Int) (q : Nat) (hq : q < 6) : (six s).filter (inR (q : Int) (q : Int)) = [⟨(q : Int), (q : Int), s q⟩] := by
  rcases (show q = 0 ∨ q = 1 ∨ q = 2 ∨ q = 3 ∨ q = 4 ∨ q = 5 by omega) with rfl | rfl | rfl | rfl | rfl | rfl <;> rfl
theorem version_at (c : List S160) (st : Int) (hl : c.length ≤ 1048576) (hv : VC c) : ∃ p : Int, Ev (fun k => spec_VersionAt.f k c st) p ∧ (p = -1 ∨ ∃ t : Nat, p = (t : Int) ∧ t < c.length ∧ (rd_T160 c (t : Int)).f2 ≤ st) ∧ ∀ j : Nat, j < c.length → p < (j : Int) → (rd_T160 c (j : Int)).f2 > st := by
  obtain ⟨r, er, hr⟩ := chain_spec c hl
  obtain rfl := hr.2 hv
  refine ev_to (σ := Int) (fun s i k => spec_VersionAt.l0 k c st s (i : Int)) c.length (fun s i => (s = -1 ∨ ∃ t : Nat, s = (t : Int) ∧ t < c.length ∧ (rd_T160 c (t : Int)).f2 ≤ st) ∧ ∀ j : Nat, j < i → s < (j : Int) → (rd_T160 c (j : Int)).f2 > st) (fun p => (p = -1 ∨ ∃ t : Nat, p = (t : Int) ∧ t < c.length ∧ (rd_T160 c (t : Int)).f2 ≤ st) ∧ ∀ j : Nat, j < c.length → p < (j : Int) → (rd_T160 c (j : Int)).f2 > st) ?_ ?_ (-1) 0 (Nat.zero_le _) ⟨.inl rfl, fun j hj => absurd hj (by omega)⟩
  · rintro s i hi ⟨hs, hI⟩ ih
    have h1 : (i : Int) < (c.length : Int) := by omega
    apply ex_succ
    simp only [spec_VersionAt.l0]
    refine ex_ite (fun _ => ?_) (fun g => absurd h1 g)
    refine ex_bindE er ?_
    apply ex_succ
    simp only [spec_VersionAt.j1]
    rw [wrap_up hi (by omega)]
    refine ex_ite (fun _ => ?_) (fun g => absurd (by simp) g)
    refine ex_ite (fun _ => ?_) (fun g => absurd (Int.natCast_nonneg i) g)
    refine ex_ite (fun _ => ?_) (fun g => absurd h1 g)
    refine ex_ite (fun g => ih _ ⟨.inr ⟨i, rfl, hi, g⟩, fun j hj hj' => absurd hj' (by omega)⟩) (fun g => ih _ ⟨hs, fun j hj hj' => if hh : j < i then hI j hh hj' else by obtain rfl : j = i := (by omega); omega⟩)
  · rintro s ⟨hs, hI⟩
    apply ex_succ
    simp only [spec_VersionAt.l0]
    refine ex_ite (fun g => absurd g (Int.lt_irrefl _)) (fun _ => ?_)
    apply ex_succ
    simp only [spec_VersionAt.j1]
    exact ex_ite (fun g => absurd g (by simp)) (fun _ => ex_now ⟨hs, hI⟩)
def Told (l : List (List S160)) (q : Nat) (st v : Int) : Prop := ∃ (h : q < l.length) (t : Nat), t < l[q].length ∧ (rd_T160 l[q] (t : Int)).f2 ≤ st ∧ (∀ j : Nat, j < l[q].length → t < j → (rd_T160 l[q] (j : Int)).f2 > st) ∧ v = (rd_T160 l[q] (t : Int)).f1
theorem read_at (l : List (List S160)) (hs : Ev (fun k => spec_IsValidStore.f k l) true) (hW : ∀ e ∈ l, VC e ∧ e.length ≤ 50) (h6 : l.length = 6) (q : Nat) (hq : q < 6) (st : Int) : ∃ r, Ev (fun k => spec_ReadAt.f k l (q : Int) st) r ∧ (r.2.2.2.2.2 = true → Told l q st r.2.1) := by
  have hql : q < l.length := by omega
  have hrd : rd_L3 l (q : Int) = l[q] := by simp [rd_L3, hql]
  obtain ⟨hv, h50⟩ := hW _ (List.getElem_mem hql)
  obtain ⟨p, ep, hp, hn⟩ := version_at l[q] st (by omega) hv
  have hk : spec_l1In.f (q : Int) 0 5 = some true := by rw [l1In_eq]; simp; omega
  unfold spec_ReadAt.f
  refine ex_bindE hs ?_
  refine ex_ite (fun _ => ?_) (fun g => absurd (by simp) g)
  refine ex_bind hk ?_
  apply ex_succ
  simp only [spec_ReadAt.j0]
  rw [hrd]
  refine ex_ite (fun g => absurd g (by simp)) (fun _ => ?_)
  refine ex_ite (fun _ => ?_) (fun g => absurd (Int.natCast_nonneg q) g)
  refine ex_ite (fun _ => ?_) (fun g => absurd (show (q : Int) < (l.length : Int) by omega) g)
  refine ex_bindE ep ?_
  refine ex_ite (fun _ => ex_now (fun h => nomatch h)) (fun g => ?_)
  rcases hp with rfl | ⟨t, rfl, ht, hle⟩
  · exact absurd (by decide) g
  refine ex_ite (fun _ => ?_) (fun g => absurd (Int.natCast_nonneg t) g)
  refine ex_ite (fun _ => ?_) (fun g => absurd (show (t : Int) < (l[q].length : Int) by omega) g)
  exact ex_now (fun _ => ⟨hql, t, ht, hle, fun j hj hjt => hn j hj (by omega), rfl⟩)
theorem rd_app (s : List Int) (v : Int) (q : Nat) (hq : q ≤ s.length) : rd (s ++ [v]) (q : Int) = if q = s.length then v else rd s (q : Int) := by
  by_cases h : q = s.length
  · subst h; simp [rd]
  · have : q < s.length := by omega
    simp [rd, h, List.getElem?_append, this]
theorem state_at (l : List (List S160)) (hs : Ev (fun k => spec_IsValidStore.f k l) true) (hW : ∀ e ∈ l, VC e ∧ e.length ≤ 50) (h6 : l.length = 6) (st : Int) : ∃ a, Ev (fun k => spec_StateAt.f k l st) a ∧ (a = [] ∨ a.length = 6 ∧ ∀ q : Nat, q < 6 → Told l q st (rd a (q : Int))) := by
  refine ev_to (σ := List Int) (fun s i k => spec_StateAt.l0 k st s (i : Int) l) 6 (fun s i => s.length = i ∧ ∀ q : Nat, q < i → Told l q st (rd s (q : Int))) (fun a => a = [] ∨ a.length = 6 ∧ ∀ q : Nat, q < 6 → Told l q st (rd a (q : Int))) ?_ ?_ [] 0 (Nat.zero_le _) ⟨rfl, fun q hq => absurd hq (by omega)⟩
  · rintro s i hi ⟨hsl, hI⟩ ih
    obtain ⟨r, er, hr⟩ := read_at l hs hW h6 i hi st
    apply ex_succ
    simp only [spec_StateAt.l0]
    rw [wrap_up hi (by omega)]
    refine ex_ite (fun _ => ?_) (fun g => absurd (show (i : Int) < 6 by omega) g)
    refine ex_bindE er ?_
    refine ex_ite (fun g => ?_) (fun _ => ex_now (.inl rfl))
    refine ex_ite (fun _ => ?_) (fun g => absurd (by omega) g)
    refine ih _ ⟨by simp [hsl], fun q hq => ?_⟩
    rw [rd_app _ _ _ (by omega)]
    by_cases c : q = s.length
    · rw [if_pos c, c, hsl]; exact hr g
    · rw [if_neg c]; exact hI q (by omega)
  · rintro s ⟨hsl, hI⟩
    apply ex_succ
    simp only [spec_StateAt.l0]
    exact ex_ite (fun g => absurd g (by decide)) (fun _ => ex_now (.inr ⟨hsl, hI⟩))
theorem last_stamp (l : List (List S160)) (hs : Ev (fun k => spec_IsValidStore.f k l) true) (hW : ∀ e ∈ l, VC e ∧ e.length ≤ 50) (h6 : l.length = 6) : ∃ n, Ev (fun k => spec_LastStamp.f k l) n ∧ ∀ q (hq : q < l.length) (j : Nat), j < l[q].length → (rd_T160 l[q] (j : Int)).f2 ≤ n := by
  refine ev_to (σ := Int) (fun s i k => spec_LastStamp.l0 k s (i : Int) l) l.length (fun s i => ∀ q (hq : q < l.length), q < i → ∀ j : Nat, j < l[q].length → (rd_T160 l[q] (j : Int)).f2 ≤ s) (fun n => ∀ q (hq : q < l.length) (j : Nat), j < l[q].length → (rd_T160 l[q] (j : Int)).f2 ≤ n) ?_ ?_ 0 0 (Nat.zero_le _) (fun q _ hq => absurd hq (by omega))
  · intro s i hi hI ih
    have h1 : (i : Int) < (l.length : Int) := by omega
    have hrd : rd_L3 l (i : Int) = l[i] := by simp [rd_L3, hi]
    obtain ⟨_, h50⟩ := hW _ (List.getElem_mem hi)
    apply ex_succ
    simp only [spec_LastStamp.l0]
    refine ex_ite (fun _ => ?_) (fun g => absurd h1 g)
    refine ex_bindE hs ?_
    apply ex_succ
    simp only [spec_LastStamp.j1]
    refine ex_ite (fun _ => ?_) (fun g => absurd (by simp) g)
    refine ev_to (σ := Int) (fun s j k => spec_LastStamp.l1 k s (i : Int) (j : Int) l) l[i].length (fun s j => (∀ q (hq : q < l.length), q < i → ∀ j : Nat, j < l[q].length → (rd_T160 l[q] (j : Int)).f2 ≤ s) ∧ ∀ j2 : Nat, j2 < j → (rd_T160 l[i] (j2 : Int)).f2 ≤ s) _ ?_ ?_ s 0 (Nat.zero_le _) ⟨hI, fun j hj => absurd hj (by omega)⟩
    · rintro s j hj ⟨hI1, hI2⟩ ih2
      apply ex_succ
      simp only [spec_LastStamp.l1]
      rw [hrd, wrap_up hj (by omega)]
      refine ex_ite (fun _ => ?_) (fun g => absurd (Int.natCast_nonneg i) g)
      refine ex_ite (fun _ => ?_) (fun g => absurd h1 g)
      refine ex_ite (fun _ => ?_) (fun g => absurd (show (j : Int) < (l[i].length : Int) by omega) g)
      refine ex_ite (fun _ => ?_) (fun g => absurd (Int.natCast_nonneg j) g)
      have hm : ∀ a b c : Int, a ≤ mx (mx a b) c ∧ b ≤ mx (mx a b) c := by intro a b c; unfold mx; omega
      have hm1 := hm s (rd_T160 l[i] (j : Int)).f2 (rd_T160 l[i] (j : Int)).f3
      exact ih2 _ ⟨fun q hq hqi j hj => Int.le_trans (hI1 q hq hqi j hj) hm1.1, fun j2 hj2 => if hh : j2 < j then Int.le_trans (hI2 j2 hh) hm1.1 else by obtain rfl : j2 = j := (by omega); exact hm1.2⟩
    · rintro s ⟨hI1, hI2⟩
      apply ex_succ
      simp only [spec_LastStamp.l1]
      rw [hrd, wrap_up hi (by omega)]
      refine ex_ite (fun _ => ?_) (fun g => absurd (Int.natCast_nonneg i) g)
      refine ex_ite (fun _ => ?_) (fun g => absurd h1 g)
      refine ex_ite (fun g => absurd g (Int.lt_irrefl _)) (fun _ => ?_)
      exact ih s (fun q hq hqi j hj => if hh : q < i then hI1 q hq hh j hj else by obtain rfl : q = i := (by omega); exact hI2 j hj)
  · intro s hI
    apply ex_succ
    simp only [spec_LastStamp.l0]
    refine ex_ite (fun g => absurd g (Int.lt_irrefl _)) (fun _ => ?_)
    apply ex_succ
    simp only [spec_LastStamp.j1]
    exact ex_ite (fun g => absurd g (by simp)) (fun _ => ex_now (fun q hq j hj => hI q hq hq j hj))
theorem no_change (c : List S160) (t : Nat) : ∀ n : Nat, (∀ j : Nat, t < j → j ≤ t + n → chg c j = false) → ((rd_T160 c ((t + n : Nat) : Int)).f1 == -1) = ((rd_T160 c (t : Int)).f1 == -1)
  | 0, _ => rfl
  | n + 1, h => by
    rw [← no_change c t n (fun j h1 h2 => h j h1 (by omega))]
    have := h (t + (n + 1)) (by omega) (Nat.le_refl _)
    unfold chg at this
    rw [show t + (n + 1) - 1 = t + n by omega] at this
    simpa using this
theorem newer (l : List (List S160)) (s : Nat → Int) (q : Nat) (st n a b : Int) (hbd : ∀ q (hq : q < l.length), bounded l[q] (s q) l[q].length) (hn : ∀ q (hq : q < l.length) (j : Nat), j < l[q].length → (rd_T160 l[q] (j : Int)).f2 ≤ n) (ha : Told l q st a) (hb : Told l q n b) (hne : (a == -1) ≠ (b == -1)) : ¬ s q ≤ st := by
  obtain ⟨hq, t, ht, hle, hgt, rfl⟩ := ha
  obtain ⟨_, u, hu, _, hgu, rfl⟩ := hb
  have hlast : ∀ j : Nat, j < l[q].length → ¬ u < j := fun j hj huj => by
    have h1 := hgu j hj huj
    have h2 := hn q hq j hj
    omega
  have hut : t ≤ u := by
    have := hlast t ht; omega
  intro hs
  apply hne
  have := no_change l[q] t (u - t) (fun j h1 h2 => by
    cases hc : chg l[q] j
    · rfl
    · have g1 := hbd q hq j (by omega) (by omega) hc
      have g2 := hgt j (by omega) h1
      omega)
  rw [show t + (u - t) = u by omega] at this
  exact this.symm
theorem FnPhantoms : laws_FnPhantoms.Pure := by
  intro b _ _ _
  apply Ev.rounds
  unfold laws_FnPhantoms.f laws_big.f
  simp only [Option.bind_some]
  by_cases h : (b.length : Int) > 1048576
  · simp only [h, decide_true, if_true]; exact Ev.now _
  have hb : b.length ≤ 1048576 := by omega
  simp only [h, decide_false, Bool.false_eq_true, if_false]
  have hdraw : ∃ r, Ev (fun k => spec_DrawIndexOf.f k b) r ∧ r.length ≤ 6 ∧ ∀ e ∈ r, e.length ≤ 6 := by
    unfold spec_DrawIndexOf.f
    obtain ⟨h0, e0⟩ := new_ok b hb
    refine ex_bindE e0 ?_
    obtain ⟨⟨p, i1, h1⟩, e1, hp, hi1⟩ := anystore_ok b 0 h0 hb ⟨Int.le_refl _, by omega⟩
    exact ex_bindE e1 (ex_now hp)
  obtain ⟨l, e1, hl, hle⟩ := hdraw
  obtain ⟨r, e2, e3, hr⟩ := both_IndexOf2 l (by omega) (fun e he => by have := hle e he; omega)
  have hrl : r.length ≤ 6 := by
    rcases hr with ⟨rfl, _⟩ | ⟨_, _, _, s, rfl, _⟩
    · simp
    · exact Nat.le_refl _
  refine Ev.bind e1 (Ev.bind e3 (Ev.bind e2 ?_))
  simp only [if_true]
  refine ev_up (σ := Unit) (fun _ i k => laws_FnPhantoms.l0 k b r r (i : Int) l) r.length (fun _ _ => True) (fun _ _ => true) ?_ ?_ () 0 (Nat.zero_le _) trivial
  · intro _ i hi _ ih
    have h1 : (i : Int) < (r.length : Int) := by omega
    apply Ev.succ
    simp only [laws_FnPhantoms.l0, h1, Int.natCast_nonneg, if_true, beq_self_eq_true, Bool.not_true, Bool.or_false, Bool.false_eq_true, if_false, wrap_up hi (by omega)]
    exact ih () trivial
  intro _ _
  apply Ev.succ
  simp only [laws_FnPhantoms.l0, Int.lt_irrefl, if_false]
  rcases hr with ⟨rfl, eV⟩ | ⟨eV, hW, h6, s, rfl, hs, hbd⟩
  · refine Ev.bind eV ?_
    simp only [Bool.false_eq_true, if_false]
    exact Ev.some rfl
  refine Ev.bind eV ?_
  simp only [if_true]
  obtain ⟨v, hv⟩ : ∃ v, laws_at.f b 0 = some v := by
    unfold laws_at.f
    split
    · exact ⟨_, rfl⟩
    · exact ⟨_, rfl⟩
  simp only [hv, Option.bind_some]
  obtain ⟨a, ea, ha⟩ := state_at l eV hW h6 (Int.tmod v 12)
  obtain ⟨n, en, hn⟩ := last_stamp l eV hW h6
  obtain ⟨c, ec, hc⟩ := state_at l eV hW h6 n
  refine Ev.bind ea (Ev.bind en (Ev.bind ec ?_))
  obtain ⟨ok, _, eI, hok⟩ := index_both (six s) (by simp [six])
  obtain rfl := hok.2 (six_ix s hs)
  have hend : ∀ i : Nat, Ev (fun k => laws_FnPhantoms.j2 k (six s) (Int.tmod v 12) a c (i : Int) false) true := by
    intro i
    apply Ev.succ
    simp only [laws_FnPhantoms.j2, Bool.false_eq_true, if_false]
    exact Ev.bind eI (Ev.now _)
  have key : ∀ d i : Nat, i + d = 6 → Ev (fun k => laws_FnPhantoms.l1 k (six s) (Int.tmod v 12) a c (i : Int)) true := by
    intro d
    induction d with
    | zero =>
      intro i hi
      have hal : ¬ ((i : Int) < (a.length : Int)) := by
        rcases ha with rfl | ⟨ha, _⟩
        · simp
        · omega
      apply Ev.succ
      simp only [laws_FnPhantoms.l1, hal, if_false]
      exact hend i
    | succ d ih =>
      intro i hi
      apply Ev.succ
      by_cases h1 : (i : Int) < (a.length : Int)
      · by_cases h2 : (i : Int) < (c.length : Int)
        · have ha' : Told l i (Int.tmod v 12) (rd a (i : Int)) := by
            rcases ha with rfl | ⟨_, ha⟩
            · exact absurd h1 (by have : ((([] : List Int).length : Nat) : Int) = 0 := rfl; omega)
            · exact ha i (by omega)
          have hc' : Told l i n (rd c (i : Int)) := by
            rcases hc with rfl | ⟨_, hc⟩
            · exact absurd h2 (by have : ((([] : List Int).length : Nat) : Int) = 0 := rfl; omega)
            · exact hc i (by omega)
          have en := nodes_impl (six s) (i : Int) (i : Int) (by simp [six]) (six_ix s hs) (Int.le_refl _)
          rw [six_at s i (by omega)] at en
          have hw : wrap64 ((i : Int) + 1) = ((i + 1 : Nat) : Int) := wrap_up (show i < 6 by omega) (by omega)
          have hrd : (rd_T77 ([⟨(i : Int), (i : Int), s i⟩] : List S77) 0).f2 = s i := rfl
          simp only [laws_FnPhantoms.l1, h1, h2, if_true, decide_true]
          apply Ev.succ
          simp only [laws_FnPhantoms.j2, if_true]
          refine Ev.bind en ?_
          have hl1 : (([⟨(i : Int), (i : Int), s i⟩] : List S77).length : Int) = 1 := rfl
          have h01 : ((0 : Int) < 1) := by decide
          simp only [hl1, h01, h1, h2, hrd, hw, Int.natCast_nonneg, if_true]
          by_cases g : ((rd a (i : Int) == -1) != (rd c (i : Int) == -1)) = true
          · have := newer l s i _ n _ _ hbd hn ha' hc' (by simpa using g)
            simp only [if_pos g, if_neg this]
            exact ih (i + 1) (by omega)
          · simp only [if_neg g]
            exact ih (i + 1) (by omega)
        · simp only [laws_FnPhantoms.l1, h1, h2, if_true, decide_false]
          exact hend i
      · simp only [laws_FnPhantoms.l1, h1, if_false]
        exact hend i
  exact key 6 0 rfl

end Go.Proofs.Ytpiaeinfneoioaa.Pure
