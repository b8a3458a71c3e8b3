/- The plain statement of FnSchemes: what is drawn ends; both functions choose the same version and give the same codes; a snapshot reads no version later than its begin, the other schemes read the latest; a write is refused with a code of its scheme. Condition: the code's length is at most maxLen. -/
import Derived.Test.YtdgknikgfjhohaaPFnSchemesx32
import Derived.Test.YtdgknikgfjhohaaPlainU
namespace Go.Proofs.Ytdgknikgfjhohaa.Pure
open Go.RowKit Go.Proofs.Ytdgknikgfjhohaa.PFnSchemes Go.Proofs.YtdgknikgfjhohaaW.PrintWords Go.Proofs.YtdgknikgfjhohaaW.PrintLast Go.Proofs.Ytdgknikgfjhohaa.Plain
set_option linter.unusedVariables false
set_option linter.unusedSimpArgs false
theorem ex_succ {α : Type} {g : Nat → Option α} {P : α → Prop} (h : ∃ r, Ev (fun k => g (k + 1)) r ∧ P r) : ∃ r, Ev g r ∧ P r := by
 obtain ⟨r, a, b⟩ := h
 exact ⟨r, Ev.succ a, b⟩
theorem ex_ite {α : Type} {c : Prop} [Decidable c] {f g : Nat → Option α} {P : α → Prop} (h1 : c → ∃ r, Ev f r ∧ P r) (h2 : ¬ c → ∃ r, Ev g r ∧ P r) : ∃ r, Ev (fun k => if c then f k else g k) r ∧ P r := by
 by_cases h : c
 ·simpa only [if_pos h] using h1 h
 ·simpa only [if_neg h] using h2 h
theorem ex_now {α : Type} {x : α} {P : α → Prop} (h : P x) : ∃ r, Ev (fun _ => some x) r ∧ P r := ⟨x, Ev.now _, h⟩
theorem ex_bind {α β : Type} {x : Option α} {a : α} (e : x = some a) {g : Nat → α → Option β} {P : β → Prop} (h : ∃ r, Ev (fun k => g k a) r ∧ P r) : ∃ r, Ev (fun k => x.bind (g k)) r ∧ P r := by
 subst e; exact h
theorem ex_bindE {α β : Type} {f : Nat → Option α} {a : α} (e : Ev f a) {g : Nat → α → Option β} {P : β → Prop} (h : ∃ r, Ev (fun k => g k a) r ∧ P r) : ∃ r, Ev (fun k => (f k).bind (g k)) r ∧ P r := by
 obtain ⟨r, h1, h2⟩ := h
 exact ⟨r, Ev.bind e h1, h2⟩
theorem and255 (x : Int) : 0 ≤ Go.bits .and .i64 x 255 ∧ Go.bits .and .i64 x 255 ≤ 255 := by
 have h : Go.bits .and .i64 x 255 = IntKind.i64.wrap (((BitVec.ofInt 64 x &&& BitVec.ofInt 64 255).toNat : Nat) : Int) := rfl
 rw [h, BitVec.toNat_and, show (BitVec.ofInt 64 255).toNat = 255 from by decide]
 have h3 : (BitVec.ofInt 64 x).toNat &&& 255 ≤ 255 := Nat.and_le_right
 rw [IntKind.wrap_i64]; omega
theorem byte_ok (b : List Int) (i h : Int) (hb : b.length ≤ 1048576) (hi : 0 ≤ i ∧ i ≤ (b.length : Int)) : ∃ x i' h', spec_l1Byte.f b i h = some (x, i', h') ∧ (0 ≤ x ∧ x ≤ 255) ∧ (0 ≤ i' ∧ i' ≤ (b.length : Int)) := by
 unfold spec_l1Byte.f
 by_cases c : i < (b.length : Int)
 ·have hw : wrap64 (i + 1) = i + 1 := wrap_in (by omega) (by omega)
  rw [if_pos c, if_pos hi.1, hw]
  exact ⟨_, _, _, rfl, and255 _, by omega, by omega⟩
 ·rw [if_neg c]
  exact ⟨_, _, _, rfl, and255 _, hi⟩
theorem below_ok (b : List Int) (i h n : Int) (hb : b.length ≤ 1048576) (hi : 0 ≤ i ∧ i ≤ (b.length : Int)) (hn : 1 ≤ n) (hn' : n ≤ 256) : ∃ x i' h', spec_l1Below.f b i h n = some (x, i', h') ∧ (0 ≤ x ∧ x < n) ∧ (0 ≤ i' ∧ i' ≤ (b.length : Int)) := by
 obtain ⟨x, i', h', e, hx, hi'⟩ := byte_ok b i h hb hi
 have c0 : ¬ n ≤ 0 := by omega
 have c2 : ¬ n = 0 := by omega
 refine ⟨Int.tmod x n, i', h', ?_, ⟨Int.tmod_nonneg n hx.1, Int.tmod_lt_of_pos x (by omega)⟩, hi'⟩
 unfold spec_l1Below.f
 rw [if_neg c0, if_pos hn', e]
 show (if n = 0 then none else some (Int.tmod x n, i', h')) = _
 rw [if_neg c2]
theorem once_ok (b : List Int) (i h n : Int) (hb : b.length ≤ 1048576) (hi : 0 ≤ i ∧ i ≤ (b.length : Int)) (hn : 1 ≤ n) (hn' : n ≤ 256) : ∃ x i' h', spec_l1Once.f b i h n = some (x, i', h') ∧ (0 ≤ i' ∧ i' ≤ (b.length : Int)) := by
 obtain ⟨x, i', h', e, hx, hi'⟩ := below_ok b i h n hb hi hn hn'
 refine ⟨x == 0, i', h', ?_, hi'⟩
 unfold spec_l1Once.f
 rw [e]; rfl
theorem pick_ok (b : List Int) (i h : Int) (l : List Int) (hb : b.length ≤ 1048576) (hi : 0 ≤ i ∧ i ≤ (b.length : Int)) (hn : 1 ≤ (l.length : Int)) (hn' : (l.length : Int) ≤ 256) : ∃ x i' h', spec_l1PickInt.f b i h l = some (x, i', h') ∧ (0 ≤ i' ∧ i' ≤ (b.length : Int)) := by
 obtain ⟨x, i', h', e, hx, hi'⟩ := below_ok b i h (l.length : Int) hb hi hn hn'
 refine ⟨rd l x, i', h', ?_, hi'⟩
 unfold spec_l1PickInt.f
 rw [e]
 show (if 0 ≤ x then (if x < (l.length : Int) then some (rd l x, i', h') else none) else none) = _
 rw [if_pos hx.1, if_pos hx.2]
theorem new_ok (b : List Int) (hb : b.length ≤ 1048576) : ∃ h, Ev (fun k => spec_l1New.f k b) (b, 0, h) := by
 have key : ∃ r, Ev (fun k => spec_l1New.l0 k b (wrap64 (10101 + (b.length : Int))) ((0 : Nat) : Int)) r ∧ ∃ h, r = (b, 0, h) := by
  refine ev_to (σ := Int) (fun s i k => spec_l1New.l0 k b s (i : Int)) b.length (fun _ _ => True) (fun r => ∃ h, r = (b, 0, h)) ?_ ?_ (wrap64 (10101 + (b.length : Int))) 0 (Nat.zero_le _) trivial
  ·intro s i hi _ ih
   have h1 : (i : Int) < (b.length : Int) := by omega
   apply ex_succ
   simp only [spec_l1New.l0]
   rw [wrap_up hi (by omega)]
   exact ex_ite (fun _ => ex_ite (fun _ => ex_ite (fun _ => ih _ trivial) (fun c => absurd (Int.natCast_nonneg i) c)) (fun _ => ex_now ⟨_, rfl⟩)) (fun _ => ex_now ⟨_, rfl⟩)
  ·intro s _
   apply ex_succ
   simp only [spec_l1New.l0]
   exact ex_ite (fun c => absurd c (Int.lt_irrefl _)) (fun _ => ex_now ⟨_, rfl⟩)
 obtain ⟨r, h, x, rfl⟩ := key
 exact ⟨x, h⟩
theorem chain_ok (b : List Int) (i h : Int) (hb : b.length ≤ 1048576) (hi : 0 ≤ i ∧ i ≤ (b.length : Int)) : ∃ r, Ev (fun k => spec_l3Chain.f k b i h) r ∧ (1 ≤ r.1.length ∧ r.1.length ≤ 6) ∧ (0 ≤ r.2.1 ∧ r.2.1 ≤ (b.length : Int)) := by
 have key : ∀ (m : Nat), m ≤ 5 → ∀ (xs : List S52) (s i h : Int), (0 ≤ i ∧ i ≤ (b.length : Int)) → 1 ≤ xs.length → xs.length + m ≤ 6 → ∃ r, Ev (fun k => spec_l3Chain.l0 k xs s (m : Int) b i h) r ∧ (1 ≤ r.1.length ∧ r.1.length ≤ 6) ∧ (0 ≤ r.2.1 ∧ r.2.1 ≤ (b.length : Int)) := by
  intro m
  induction m with
  | zero =>
   intro _ xs s i h hi h1 hx
   apply ex_succ
   simp only [spec_l3Chain.l0]
   exact ex_ite (fun c => absurd c (by simp)) (fun _ => ex_now ⟨⟨h1, hx⟩, hi⟩)
  | succ m ih =>
   intro hm xs s i h hi h1 hx
   have hw : wrap64 (((m + 1 : Nat) : Int) - 1) = (m : Int) := by unfold wrap64; omega
   have hl : wrap64 ((xs.length : Int) - 1) = ((xs.length - 1 : Nat) : Int) := wrap_down (by omega) (by omega)
   apply ex_succ
   simp only [spec_l3Chain.l0]
   rw [hw, hl]
   refine ex_ite (fun _ => ?_) (fun c => absurd (by omega) c)
   refine ex_ite (fun _ => ?_) (fun c => absurd (Int.natCast_nonneg _) c)
   refine ex_ite (fun _ => ?_) (fun c => absurd (by omega) c)
   obtain ⟨x, i1, h1', e1, _, hi1⟩ := below_ok b i h 3 hb hi (by decide) (by decide)
   refine ex_bind e1 (ex_bind rfl ?_)
   obtain ⟨y, i2, h2, e2, _, hi2⟩ := below_ok b i1 h1' 2 hb hi1 (by decide) (by decide)
   refine ex_bind e2 ?_
   obtain ⟨z, i3, h3, e3, _, hi3⟩ := below_ok b i2 h2 4 hb hi2 (by decide) (by decide)
   refine ex_bind e3 (ex_bind rfl ?_)
   obtain ⟨u, i4, h4, e4, _, hi4⟩ := below_ok b i3 h3 9 hb hi3 (by decide) (by decide)
   refine ex_bind e4 ?_
   obtain ⟨v, i5, h5, e5, hi5⟩ := pick_ok b i4 h4 [(-1), 0, 5, 7, 42, 99] hb hi4 (by decide) (by decide)
   refine ex_bind e5 ?_
   exact ex_ite (fun _ => ih (by omega) _ _ i5 h5 hi5 (by simp) (by simp; omega)) (fun c => absurd (by simp; omega) c)
 unfold spec_l3Chain.f
 obtain ⟨x, i1, h1, e1, hx, hi1⟩ := below_ok b i h 5 hb hi (by decide) (by decide)
 refine ex_bind e1 ?_
 obtain ⟨m, rfl⟩ := Int.eq_ofNat_of_zero_le hx.1
 exact key m (by omega) _ 0 i1 h1 hi1 (by simp) (by simp; omega)
theorem anychain_ok (b : List Int) (i h : Int) (hb : b.length ≤ 1048576) (hi : 0 ≤ i ∧ i ≤ (b.length : Int)) : ∃ r, Ev (fun k => spec_l3Any.f k b i h) r ∧ r.1.length ≤ 6 ∧ (0 ≤ r.2.1 ∧ r.2.1 ≤ (b.length : Int)) := by
 unfold spec_l3Any.f
 obtain ⟨⟨l, i1, h1⟩, e1, hl, hi1⟩ := chain_ok b i h hb hi
 dsimp only at hl hi1
 refine ex_bindE e1 ?_
 obtain ⟨x, i2, h2, e2, hx, hi2⟩ := below_ok b i1 h1 (l.length : Int) hb hi1 (by omega) (by omega)
 refine ex_bind e2 ?_
 obtain ⟨y, i3, h3, e3, _, hi3⟩ := below_ok b i2 h2 16 hb hi2 (by decide) (by decide)
 refine ex_bind e3 ?_
 have set_ : ∀ (p : List Int) (hp : 1 ≤ (p.length : Int)) (hp' : (p.length : Int) ≤ 256) (f : Int → S52), ∃ r, Ev (fun _ => (spec_l1PickInt.f b i3 h3 p).bind fun bt => (if 0 ≤ x then (if x < (l.length : Int) then (some ((l.set (x : Int).toNat (f bt.1)), bt.2.1, bt.2.2)) else (none)) else (none))) r ∧ r.1.length ≤ 6 ∧ (0 ≤ r.2.1 ∧ r.2.1 ≤ (b.length : Int)) := by
  intro p hp hp' f
  obtain ⟨z, i4, h4, e4, hi4⟩ := pick_ok b i3 h3 p hb hi3 hp hp'
  refine ex_bind e4 ?_
  exact ex_ite (fun _ => ex_ite (fun _ => ex_now ⟨by simp; omega, hi4⟩) (fun c => absurd hx.2 c)) (fun c => absurd hx.1 c)
 refine ex_ite (fun _ => set_ [0, 1, 3, 1000, 1001] (by decide) (by decide) (fun z => ⟨(rd_T52 l x).f0, (rd_T52 l x).f1, (rd_T52 l x).f2, (rd_T52 l x).f3, z⟩)) (fun _ => ?_)
 refine ex_ite (fun _ => set_ [(-1), 0, 999, 1000] (by decide) (by decide) (fun z => ⟨(rd_T52 l x).f0, (rd_T52 l x).f1, (rd_T52 l x).f2, z, (rd_T52 l x).f4⟩)) (fun _ => ?_)
 refine ex_ite (fun _ => set_ [(-2), 100, 99] (by decide) (by decide) (fun z => ⟨(rd_T52 l x).f0, z, (rd_T52 l x).f2, (rd_T52 l x).f3, (rd_T52 l x).f4⟩)) (fun _ => ?_)
 refine ex_ite (fun _ => ex_ite (fun _ => ex_now ⟨by simp; omega, hi3⟩) (fun c => absurd (show (1 : Int) ≤ (l.length : Int) by omega) c)) (fun _ => ?_)
 exact ex_ite (fun _ => set_ [0, 9, 10] (by decide) (by decide) (fun z => ⟨z, (rd_T52 l x).f1, (rd_T52 l x).f2, (rd_T52 l x).f3, (rd_T52 l x).f4⟩)) (fun _ => ex_now ⟨hl.2, hi3⟩)
theorem store_ok (b : List Int) (i h : Int) (hb : b.length ≤ 1048576) (hi : 0 ≤ i ∧ i ≤ (b.length : Int)) : ∃ r, Ev (fun k => spec_l4Store.f k b i h) r ∧ (r.1.length = 6 ∧ ∀ e ∈ r.1, e.length ≤ 6) ∧ (0 ≤ r.2.1 ∧ r.2.1 ≤ (b.length : Int)) := by
 have key : ∀ (m : Nat), m ≤ 6 → ∀ (xs : List (List S52)) (i h : Int), (0 ≤ i ∧ i ≤ (b.length : Int)) → xs.length = 6 - m → (∀ e ∈ xs, e.length ≤ 6) → ∃ r, Ev (fun k => spec_l4Store.l0 k ((6 - m : Nat) : Int) b i h xs) r ∧ (r.1.length = 6 ∧ ∀ e ∈ r.1, e.length ≤ 6) ∧ (0 ≤ r.2.1 ∧ r.2.1 ≤ (b.length : Int)) := by
  intro m
  induction m with
  | zero =>
   intro _ xs i h hi hx he
   apply ex_succ
   simp only [spec_l4Store.l0]
   exact ex_ite (fun c => absurd c (by decide)) (fun _ => ex_now ⟨⟨hx, he⟩, hi⟩)
  | succ m ih =>
   intro hm xs i h hi hx he
   have hw : wrap64 (((6 - (m + 1) : Nat) : Int) + 1) = ((6 - m : Nat) : Int) := by unfold wrap64; omega
   apply ex_succ
   simp only [spec_l4Store.l0]
   rw [hw]
   refine ex_ite (fun _ => ?_) (fun c => absurd (by omega) c)
   obtain ⟨⟨c, i1, h1⟩, e1, hc, hi1⟩ := chain_ok b i h hb hi
   refine ex_bindE e1 ?_
   refine ex_ite (fun _ => ih (by omega) _ i1 h1 hi1 (by simp; omega) (fun e he' => ?_)) (fun c => absurd (by omega) c)
   rw [List.mem_append, List.mem_singleton] at he'
   rcases he' with he' | rfl
   ·exact he e he'
   ·exact hc.2
 exact key 6 (Nat.le_refl _) [] i h hi rfl (fun e he => absurd he (by simp))
theorem anystore_ok (b : List Int) (i h : Int) (hb : b.length ≤ 1048576) (hi : 0 ≤ i ∧ i ≤ (b.length : Int)) : ∃ r, Ev (fun k => spec_l4Any.f k b i h) r ∧ (r.1.length ≤ 6 ∧ ∀ e ∈ r.1, e.length ≤ 6) ∧ (0 ≤ r.2.1 ∧ r.2.1 ≤ (b.length : Int)) := by
 unfold spec_l4Any.f
 obtain ⟨⟨l, i1, h1⟩, e1, hl, hi1⟩ := store_ok b i h hb hi
 dsimp only at hl hi1
 refine ex_bindE e1 ?_
 obtain ⟨x, i2, h2, e2, hx, hi2⟩ := below_ok b i1 h1 12 hb hi1 (by decide) (by decide)
 refine ex_bind e2 ?_
 refine ex_ite (fun _ => ?_) (fun _ => ex_ite (fun _ => ?_) (fun _ => ex_now ⟨⟨Nat.le_of_eq hl.1, hl.2⟩, hi2⟩))
 ·obtain ⟨y, i3, h3, e3, hy, hi3⟩ := below_ok b i2 h2 6 hb hi2 (by decide) (by decide)
  refine ex_bind e3 ?_
  obtain ⟨⟨c, i4, h4⟩, e4, hc, hi4⟩ := anychain_ok b i3 h3 hb hi3
  refine ex_bindE e4 ?_
  refine ex_ite (fun _ => ex_ite (fun _ => ex_now ⟨⟨by simp; omega, fun e he => ?_⟩, hi4⟩) (fun c => absurd (show y < (l.length : Int) by omega) c)) (fun c => absurd hy.1 c)
  rcases List.mem_or_eq_of_mem_set he with he | rfl
  ·exact hl.2 e he
  ·exact hc
 ·exact ex_ite (fun _ => ex_now ⟨⟨by simp; omega, fun e he => hl.2 e (List.mem_of_mem_drop he)⟩, hi2⟩) (fun c => absurd (show (1 : Int) ≤ (l.length : Int) by omega) c)
theorem l1In_eq (a b c : Int) : spec_l1In.f a b c = some (decide (b ≤ a) && decide (a ≤ c)) := by
 by_cases h : b ≤ a <;> simp [spec_l1In.f, h]
theorem in_eq (a b c : Int) : impl_in.f a b c = some (decide (b ≤ a) && decide (a ≤ c)) := by
 by_cases h : b ≤ a <;> simp [impl_in.f, h]
theorem compare_eq (a b : Int) : cmp_Compare_int.f a b = some (if a < b then -1 else if a > b then 1 else 0) := by
 by_cases h : a < b <;> by_cases h' : a > b <;> simp [cmp_Compare_int.f, cmp_isNaN_int.f, h, h']
theorem ev_or (x y : Int) : Ev (fun k => cmp_Or_int.f k [x, y]) (if x = 0 then y else x) := by
 show Ev (fun k => cmp_Or_int.l0 k 0 [x, y] (2 : Int) 0) _
 apply Ev.succ
 by_cases hx : x = 0
 ·simp only [cmp_Or_int.l0, hx, rd, wrap64, if_true]
  apply Ev.succ
  by_cases hy : y = 0
  ·subst hy
   simp [cmp_Or_int.l0, rd, wrap64]
   apply Ev.succ
   simp [cmp_Or_int.l0]; exact Ev.now _
  ·simp [cmp_Or_int.l0, rd, wrap64, hy]; exact Ev.now _
 ·simp [cmp_Or_int.l0, rd, hx]; exact Ev.now _
theorem ev_cmp (a b c d : Int) : ∃ v, Ev (fun k => impl_compareMarks.f k a b c d) v ∧ spec_l5Before.f a b c d = some (decide (v < 0)) := by
 refine ⟨if (if a < c then -1 else if a > c then 1 else 0) = (0 : Int) then (if b < d then -1 else if b > d then 1 else 0) else (if a < c then -1 else if a > c then 1 else 0), ?_, ?_⟩
 ·unfold impl_compareMarks.f
  simp only [compare_eq, Option.bind_some]
  exact Ev.bind (ev_or _ _) (Ev.now _)
 ·unfold spec_l5Before.f
  by_cases h1 : a < c
  ·simp [h1]
  ·by_cases h2 : a > c
   ·have h3 : ¬ a = c := by omega
    simp [h1, h2, h3]
   ·have h3 : a = c := by omega
    by_cases h4 : b < d
    ·simp [h3, h4]
    ·by_cases h5 : b > d <;> simp [h3, h4, h5]
theorem both_reads (a0 a1 a2 a3 a4 a5 a6 : Int) (rs : List S116) (ws : List S103) (hl : rs.length ≤ 1048576) (r : Bool) (hr : Ev (fun k => spec_IsValidTransaction.l1 k 0 a0 a1 a2 a3 a4 a5 a6 rs ws) r) :
  ∃ x y, Ev (fun k => impl_areReads.f k rs) x ∧ Ev (fun k => spec_IsValidTransaction.l0 k ((0 : Nat) : Int) a0 a1 a2 a3 a4 a5 a6 rs ws) y ∧ ∃ rb : Bool, x = (rb && decide ((rs.length : Int) ≤ 60)) ∧ y = (rb && r) := by
 refine ev_two (σ := Unit) (τ := Unit) (fun _ i k => impl_areReads.l0 k rs rs (rs.length : Int) (i : Int)) (fun _ i k => spec_IsValidTransaction.l0 k (i : Int) a0 a1 a2 a3 a4 a5 a6 rs ws) rs.length (fun _ _ _ => True) (fun x y => ∃ rb : Bool, x = (rb && decide ((rs.length : Int) ≤ 60)) ∧ y = (rb && r)) ?_ ?_ () () 0 (Nat.zero_le _) trivial
 ·intro _ _ i hi _ ih
  have h1 : (i : Int) < (rs.length : Int) := by omega
  have e0 := wrap_up hi (by omega)
  obtain ⟨x, y, hx, hy, rb, rfl, rfl⟩ := ih () () trivial
  have iT : Ev (fun k => impl_areReads.j1 k rs (i : Int) rs (rs.length : Int) true) false := Ev.succ (by simp only [impl_areReads.j1, if_true]; exact Ev.now _)
  have sT : Ev (fun k => spec_IsValidTransaction.j1 k (i : Int) true a0 a1 a2 a3 a4 a5 a6 rs ws) false := Ev.succ (by simp only [spec_IsValidTransaction.j1, if_true]; exact Ev.now _)
  have iF : Ev (fun k => impl_areReads.j1 k rs (i : Int) rs (rs.length : Int) false) (rb && decide ((rs.length : Int) ≤ 60)) := Ev.succ (by simp only [impl_areReads.j1, Bool.false_eq_true, if_false, e0]; exact hx)
  have sF : Ev (fun k => spec_IsValidTransaction.j1 k (i : Int) false a0 a1 a2 a3 a4 a5 a6 rs ws) (rb && r) := Ev.succ (by simp only [spec_IsValidTransaction.j1, Bool.false_eq_true, if_false, e0]; exact hy)
  by_cases ck : (decide (0 ≤ (rd_T116 rs (i : Int)).f0) && decide ((rd_T116 rs (i : Int)).f0 ≤ 5)) = true
  rotate_left 1
  ·refine ⟨false, false, Ev.succ ?_, Ev.succ ?_, false, by simp, by simp⟩
   ·simp only [impl_areReads.l0, impl_isKey.f, in_eq, h1, ck, Int.natCast_nonneg, if_true, if_false, Option.bind_some]; exact iT
   ·simp only [spec_IsValidTransaction.l0, l1In_eq, h1, ck, Int.natCast_nonneg, if_true, if_false, Option.bind_some]; exact sT
  by_cases cc : (decide (0 ≤ (rd_T116 rs (i : Int)).f1) && decide ((rd_T116 rs (i : Int)).f1 ≤ 999)) = true
  rotate_left 1
  ·refine ⟨false, false, Ev.succ ?_, Ev.succ ?_, false, by simp, by simp⟩
   ·simp only [impl_areReads.l0, impl_isKey.f, in_eq, h1, ck, cc, Int.natCast_nonneg, if_true, if_false, Option.bind_some]; exact iT
   ·simp only [spec_IsValidTransaction.l0, l1In_eq, h1, ck, cc, Int.natCast_nonneg, if_true, if_false, Option.bind_some]; exact sT
  by_cases h0 : 0 < i
  ·have e1 : wrap64 ((i : Int) - 1) = ((i - 1 : Nat) : Int) := wrap_down h0 (by omega)
   have h2 : ((i - 1 : Nat) : Int) < (rs.length : Int) := by omega
   have h3 : (i : Int) > 0 := by omega
   obtain ⟨v, ev, hb⟩ := ev_cmp (rd_T116 rs ((i - 1 : Nat) : Int)).f0 (rd_T116 rs ((i - 1 : Nat) : Int)).f1 (rd_T116 rs (i : Int)).f0 (rd_T116 rs (i : Int)).f1
   by_cases hv : v < 0
   ·have hv' : ¬ v ≥ 0 := by omega
    refine ⟨(rb && decide ((rs.length : Int) ≤ 60)), (rb && r), Ev.succ ?_, Ev.succ ?_, rb, rfl, rfl⟩
    ·simp only [impl_areReads.l0, impl_isKey.f, in_eq, h1, h2, h3, e1, ck, cc, Int.natCast_nonneg, if_true, Option.bind_some]
     refine Ev.bind ev ?_
     simp only [hv', decide_false]; exact iF
    ·simp only [spec_IsValidTransaction.l0, l1In_eq, hb, hv, h1, h2, h3, e1, ck, cc, Int.natCast_nonneg, if_true, Option.bind_some, decide_true, Bool.not_true]; exact sF
   ·have hv' : v ≥ 0 := by omega
    refine ⟨false, false, Ev.succ ?_, Ev.succ ?_, false, by simp, by simp⟩
    ·simp only [impl_areReads.l0, impl_isKey.f, in_eq, h1, h2, h3, e1, ck, cc, Int.natCast_nonneg, if_true, Option.bind_some]
     refine Ev.bind ev ?_
     simp only [hv', decide_true]; exact iT
    ·simp only [spec_IsValidTransaction.l0, l1In_eq, hb, hv, h1, h2, h3, e1, ck, cc, Int.natCast_nonneg, if_true, Option.bind_some, decide_false, Bool.not_false]; exact sT
  ·have h3 : ¬ (i : Int) > 0 := by omega
   refine ⟨(rb && decide ((rs.length : Int) ≤ 60)), (rb && r), Ev.succ ?_, Ev.succ ?_, rb, rfl, rfl⟩
   ·simp only [impl_areReads.l0, impl_isKey.f, in_eq, h1, h3, ck, cc, Int.natCast_nonneg, if_true, if_false, Option.bind_some]; exact iF
   ·simp only [spec_IsValidTransaction.l0, l1In_eq, h1, h3, ck, cc, Int.natCast_nonneg, if_true, if_false, Option.bind_some]; exact sF
 ·intro _ _ _
  refine ⟨decide ((rs.length : Int) ≤ 60), r, Ev.succ ?_, Ev.succ ?_, true, (Bool.true_and _).symm, (Bool.true_and _).symm⟩
  ·simp only [impl_areReads.l0, Int.lt_irrefl, if_false]; exact Ev.now _
  ·simp only [spec_IsValidTransaction.l0, Int.lt_irrefl, if_false]; exact hr
def tailOf (a0 a1 a2 a3 a4 a5 a6 : Int) (n : Int) : Bool :=
 ((decide (1 ≤ a0) && decide (a0 ≤ 9)) && ((decide (1 ≤ a1) && decide (a1 ≤ 4)) && (decide (0 ≤ a3) && decide (a3 ≤ 999)))) &&
 ((decide (1 ≤ a2) && decide (a2 ≤ 3)) && ((decide (0 ≤ a4) && decide (a4 ≤ 999)) && ((decide (1 ≤ a5) && decide (a5 ≤ 1000)) && (((a2 == 2) == decide (a6 > 0)) && ((decide (0 ≤ a6) && decide (a6 ≤ 999)) && decide (n ≤ 60))))))
theorem both_writes (a0 a1 a2 a3 a4 a5 a6 : Int) (rs : List S116) (ws : List S103) (hl : ws.length ≤ 1048576) :
  ∃ x y, Ev (fun k => impl_areWrites.f k ws) x ∧ Ev (fun k => spec_IsValidTransaction.l1 k ((0 : Nat) : Int) a0 a1 a2 a3 a4 a5 a6 rs ws) y ∧ y = (x && tailOf a0 a1 a2 a3 a4 a5 a6 (rs.length : Int)) := by
 refine ev_two (σ := Unit) (τ := Unit) (fun _ i k => impl_areWrites.l0 k ws ws (ws.length : Int) (i : Int)) (fun _ i k => spec_IsValidTransaction.l1 k (i : Int) a0 a1 a2 a3 a4 a5 a6 rs ws) ws.length (fun _ _ _ => True) (fun x y => y = (x && tailOf a0 a1 a2 a3 a4 a5 a6 (rs.length : Int))) ?_ ?_ () () 0 (Nat.zero_le _) trivial
 ·intro _ _ i hi _ ih
  have h1 : (i : Int) < (ws.length : Int) := by omega
  have e0 := wrap_up hi (by omega)
  obtain ⟨x, y, hx, hy, rfl⟩ := ih () () trivial
  have iT : Ev (fun k => impl_areWrites.j1 k ws (i : Int) ws (ws.length : Int) true) false := Ev.succ (by simp only [impl_areWrites.j1, if_true]; exact Ev.now _)
  have sT : Ev (fun k => spec_IsValidTransaction.j3 k (i : Int) true a0 a1 a2 a3 a4 a5 a6 rs ws) false := Ev.succ (by simp only [spec_IsValidTransaction.j3, if_true]; exact Ev.now _)
  have iF : Ev (fun k => impl_areWrites.j1 k ws (i : Int) ws (ws.length : Int) false) x := Ev.succ (by simp only [impl_areWrites.j1, Bool.false_eq_true, if_false, e0]; exact hx)
  have sF : Ev (fun k => spec_IsValidTransaction.j3 k (i : Int) false a0 a1 a2 a3 a4 a5 a6 rs ws) (x && tailOf a0 a1 a2 a3 a4 a5 a6 (rs.length : Int)) := Ev.succ (by simp only [spec_IsValidTransaction.j3, Bool.false_eq_true, if_false, e0]; exact hy)
  by_cases ck : (decide (0 ≤ (rd_T103 ws (i : Int)).f0) && decide ((rd_T103 ws (i : Int)).f0 ≤ 5)) = true
  rotate_left 1
  ·refine ⟨false, false, Ev.succ ?_, Ev.succ ?_, by simp⟩
   ·simp only [impl_areWrites.l0, impl_isKey.f, in_eq, h1, ck, Int.natCast_nonneg, if_true, if_false, Option.bind_some]; exact iT
   ·simp only [spec_IsValidTransaction.l1, l1In_eq, h1, ck, Int.natCast_nonneg, if_true, if_false, Option.bind_some]; exact sT
  by_cases cc : (decide (-1 ≤ (rd_T103 ws (i : Int)).f1) && decide ((rd_T103 ws (i : Int)).f1 ≤ 99)) = true
  rotate_left 1
  ·refine ⟨false, false, Ev.succ ?_, Ev.succ ?_, by simp⟩
   ·simp only [impl_areWrites.l0, impl_isKey.f, impl_isValue.f, in_eq, h1, ck, cc, Int.natCast_nonneg, if_true, if_false, Option.bind_some]; exact iT
   ·simp only [spec_IsValidTransaction.l1, l1In_eq, h1, ck, cc, Int.natCast_nonneg, if_true, if_false, Option.bind_some]; exact sT
  by_cases h0 : 0 < i
  ·have e1 : wrap64 ((i : Int) - 1) = ((i - 1 : Nat) : Int) := wrap_down h0 (by omega)
   have h2 : ((i - 1 : Nat) : Int) < (ws.length : Int) := by omega
   have h3 : (i : Int) > 0 := by omega
   by_cases hv : (rd_T103 ws ((i - 1 : Nat) : Int)).f0 ≥ (rd_T103 ws (i : Int)).f0
   ·refine ⟨false, false, Ev.succ ?_, Ev.succ ?_, by simp⟩
    ·simp only [impl_areWrites.l0, impl_isKey.f, impl_isValue.f, in_eq, h1, h2, h3, e1, hv, ck, cc, Int.natCast_nonneg, if_true, Option.bind_some, decide_true]; exact iT
    ·simp only [spec_IsValidTransaction.l1, l1In_eq, h1, h2, h3, e1, hv, ck, cc, Int.natCast_nonneg, if_true, Option.bind_some, decide_true]; exact sT
   ·refine ⟨x, (x && tailOf a0 a1 a2 a3 a4 a5 a6 (rs.length : Int)), Ev.succ ?_, Ev.succ ?_, rfl⟩
    ·simp only [impl_areWrites.l0, impl_isKey.f, impl_isValue.f, in_eq, h1, h2, h3, e1, hv, ck, cc, Int.natCast_nonneg, if_true, Option.bind_some, decide_false]; exact iF
    ·simp only [spec_IsValidTransaction.l1, l1In_eq, h1, h2, h3, e1, hv, ck, cc, Int.natCast_nonneg, if_true, Option.bind_some, decide_false]; exact sF
  ·have h3 : ¬ (i : Int) > 0 := by omega
   refine ⟨x, (x && tailOf a0 a1 a2 a3 a4 a5 a6 (rs.length : Int)), Ev.succ ?_, Ev.succ ?_, rfl⟩
   ·simp only [impl_areWrites.l0, impl_isKey.f, impl_isValue.f, in_eq, h1, h3, ck, cc, Int.natCast_nonneg, if_true, if_false, Option.bind_some]; exact iF
   ·simp only [spec_IsValidTransaction.l1, l1In_eq, h1, h3, ck, cc, Int.natCast_nonneg, if_true, if_false, Option.bind_some]; exact sF
 ·intro _ _ _
  refine ⟨true, tailOf a0 a1 a2 a3 a4 a5 a6 (rs.length : Int), Ev.succ ?_, Ev.succ ?_, (Bool.true_and _).symm⟩
  ·simp only [impl_areWrites.l0, Int.lt_irrefl, if_false]; exact Ev.now _
  ·have jT : Ev (fun k => spec_IsValidTransaction.j4 k true a0 a1 a2 a3 a4 a5 a6 rs ws) false := Ev.succ (by simp only [spec_IsValidTransaction.j4, if_true]; exact Ev.now _)
   have jF : Ev (fun k => spec_IsValidTransaction.j4 k false a0 a1 a2 a3 a4 a5 a6 rs ws) ((decide (1 ≤ a2) && decide (a2 ≤ 3)) && ((decide (0 ≤ a4) && decide (a4 ≤ 999)) && ((decide (1 ≤ a5) && decide (a5 ≤ 1000)) && (((a2 == 2) == decide (a6 > 0)) && ((decide (0 ≤ a6) && decide (a6 ≤ 999)) && decide ((rs.length : Int) ≤ 60)))))) := by
    apply Ev.succ
    simp only [spec_IsValidTransaction.j4, Bool.false_eq_true, if_false, l1In_eq, Option.bind_some]
    generalize (decide (1 ≤ a2) && decide (a2 ≤ 3)) = b2
    generalize (decide (0 ≤ a4) && decide (a4 ≤ 999)) = b4
    generalize (decide (1 ≤ a5) && decide (a5 ≤ 1000)) = b5
    generalize ((a2 == 2) == decide (a6 > 0)) = b6
    generalize (decide (0 ≤ a6) && decide (a6 ≤ 999)) = b7
    cases b2 <;> cases b4 <;> cases b5 <;> cases b6 <;> cases b7 <;> simp only [Bool.false_eq_true, if_false, if_true, Bool.false_and, Bool.true_and] <;> exact Ev.now _
   simp only [spec_IsValidTransaction.l1, Int.lt_irrefl, if_false, l1In_eq, Option.bind_some]
   unfold tailOf
   revert jF
   generalize ((decide (1 ≤ a2) && decide (a2 ≤ 3)) && ((decide (0 ≤ a4) && decide (a4 ≤ 999)) && ((decide (1 ≤ a5) && decide (a5 ≤ 1000)) && (((a2 == 2) == decide (a6 > 0)) && ((decide (0 ≤ a6) && decide (a6 ≤ 999)) && decide ((rs.length : Int) ≤ 60)))))) = bt
   intro jF
   generalize (decide (1 ≤ a0) && decide (a0 ≤ 9)) = b0
   generalize (decide (1 ≤ a1) && decide (a1 ≤ 4)) = b1
   generalize (decide (0 ≤ a3) && decide (a3 ≤ 999)) = b3
   cases b0 <;> cases b1 <;> cases b3 <;> simp only [Bool.false_eq_true, if_false, if_true, Bool.false_and, Bool.true_and, Bool.not_true, Bool.not_false, Bool.and_false, Bool.and_true] <;> first | exact jT | exact jF
theorem writes_keys (ws : List S103) (hl : ws.length ≤ 1048576) : ∃ x, Ev (fun k => impl_areWrites.f k ws) x ∧ (x = true → ∀ j : Nat, j < ws.length → 0 ≤ (rd_T103 ws (j : Int)).f0 ∧ (rd_T103 ws (j : Int)).f0 ≤ 5) := by
 refine ev_to (σ := Unit) (fun _ i k => impl_areWrites.l0 k ws ws (ws.length : Int) (i : Int)) ws.length (fun _ i => ∀ j : Nat, j < i → 0 ≤ (rd_T103 ws (j : Int)).f0 ∧ (rd_T103 ws (j : Int)).f0 ≤ 5) (fun x => x = true → ∀ j : Nat, j < ws.length → 0 ≤ (rd_T103 ws (j : Int)).f0 ∧ (rd_T103 ws (j : Int)).f0 ≤ 5) ?_ ?_ () 0 (Nat.zero_le _) (fun j hj => absurd hj (by omega))
 ·intro _ i hi hI ih
  have h1 : (i : Int) < (ws.length : Int) := by omega
  have e0 := wrap_up hi (by omega)
  have iT : Ev (fun k => impl_areWrites.j1 k ws (i : Int) ws (ws.length : Int) true) false := Ev.succ (by simp only [impl_areWrites.j1, if_true]; exact Ev.now _)
  by_cases ck : (decide (0 ≤ (rd_T103 ws (i : Int)).f0) && decide ((rd_T103 ws (i : Int)).f0 ≤ 5)) = true
  rotate_left 1
  ·refine ⟨false, Ev.succ ?_, fun h => nomatch h⟩
   simp only [impl_areWrites.l0, impl_isKey.f, in_eq, h1, ck, Int.natCast_nonneg, if_true, if_false, Option.bind_some]; exact iT
  have hk : 0 ≤ (rd_T103 ws (i : Int)).f0 ∧ (rd_T103 ws (i : Int)).f0 ≤ 5 := by simpa using ck
  obtain ⟨x, hx, hR⟩ := ih () (fun j hj => if hh : j < i then hI j hh else by obtain rfl : j = i := (by omega); exact hk)
  have iF : Ev (fun k => impl_areWrites.j1 k ws (i : Int) ws (ws.length : Int) false) x := Ev.succ (by simp only [impl_areWrites.j1, Bool.false_eq_true, if_false, e0]; exact hx)
  by_cases cc : (decide (-1 ≤ (rd_T103 ws (i : Int)).f1) && decide ((rd_T103 ws (i : Int)).f1 ≤ 99)) = true
  rotate_left 1
  ·refine ⟨false, Ev.succ ?_, fun h => nomatch h⟩
   simp only [impl_areWrites.l0, impl_isKey.f, impl_isValue.f, in_eq, h1, ck, cc, Int.natCast_nonneg, if_true, if_false, Option.bind_some]; exact iT
  by_cases h0 : 0 < i
  ·have e1 : wrap64 ((i : Int) - 1) = ((i - 1 : Nat) : Int) := wrap_down h0 (by omega)
   have h2 : ((i - 1 : Nat) : Int) < (ws.length : Int) := by omega
   have h3 : (i : Int) > 0 := by omega
   by_cases hv : (rd_T103 ws ((i - 1 : Nat) : Int)).f0 ≥ (rd_T103 ws (i : Int)).f0
   ·refine ⟨false, Ev.succ ?_, fun h => nomatch h⟩
    simp only [impl_areWrites.l0, impl_isKey.f, impl_isValue.f, in_eq, h1, h2, h3, e1, hv, ck, cc, Int.natCast_nonneg, if_true, Option.bind_some, decide_true]; exact iT
   ·refine ⟨x, Ev.succ ?_, hR⟩
    simp only [impl_areWrites.l0, impl_isKey.f, impl_isValue.f, in_eq, h1, h2, h3, e1, hv, ck, cc, Int.natCast_nonneg, if_true, Option.bind_some, decide_false]; exact iF
  ·have h3 : ¬ (i : Int) > 0 := by omega
   refine ⟨x, Ev.succ ?_, hR⟩
   simp only [impl_areWrites.l0, impl_isKey.f, impl_isValue.f, in_eq, h1, h3, ck, cc, Int.natCast_nonneg, if_true, if_false, Option.bind_some]; exact iF
 ·intro _ hI
  refine ⟨true, Ev.succ ?_, fun _ j hj => hI j hj⟩
  simp only [impl_areWrites.l0, Int.lt_irrefl, if_false]; exact Ev.now _
theorem both_IsValidTransaction3 (a0 a1 a2 a3 a4 a5 a6 : Int) (rs : List S116) (ws : List S103) (hl : rs.length ≤ 1048576) (hw : ws.length ≤ 1048576) :
  ∃ b : Bool, Ev (fun k => spec_IsValidTransaction.f k a0 a1 a2 a3 a4 a5 a6 rs ws) b ∧ Ev (fun k => impl_IsValidTransaction.f k a0 a1 a2 a3 a4 a5 a6 rs ws) b ∧ (b = true → (a2 = 2 ∨ a6 = 0) ∧ ∀ j : Nat, j < ws.length → 0 ≤ (rd_T103 ws (j : Int)).f0 ∧ (rd_T103 ws (j : Int)).f0 ≤ 5) := by
 obtain ⟨wk, hwk, hkeys⟩ := writes_keys ws hw
 obtain ⟨wb, y1, hwi, hws, rfl⟩ := both_writes a0 a1 a2 a3 a4 a5 a6 rs ws hw
 obtain ⟨x, y, hri, hrs, rb, rfl, rfl⟩ := both_reads a0 a1 a2 a3 a4 a5 a6 rs ws hl _ hws
 have hc : (((a2 == 2) == decide (a6 > 0)) && (decide (0 ≤ a6) && decide (a6 ≤ 999))) = (if a2 = 2 then (decide (1 ≤ a6) && decide (a6 ≤ 999)) else (a6 == 0)) := by
  by_cases c2 : a2 = 2
  ·by_cases d1 : 1 ≤ a6
   ·have d0 : a6 > 0 := by omega
    have d3 : 0 ≤ a6 := by omega
    simp [c2, d1, d0, d3]
   ·have d0 : ¬ a6 > 0 := by omega
    simp [c2, d1, d0]
  ·by_cases d1 : a6 = 0
   ·simp [c2, d1]
   ·by_cases d0 : a6 > 0
    ·have e2 : (a2 == 2) = false := by simpa using c2
     have e6 : (a6 == 0) = false := by simpa using d1
     simp [c2, e2, e6, d0]
    ·have d3 : ¬ 0 ≤ a6 := by omega
     simp [c2, d1, d0, d3]
 have jT : Ev (fun k => impl_IsValidTransaction.j0 k true a0 a1 a2 a3 a4 a5 a6 rs ws) false := Ev.succ (by simp only [impl_IsValidTransaction.j0, if_true]; exact Ev.now _)
 have kT : Ev (fun k => impl_IsValidTransaction.j1 k true a0 a1 a2 a3 a4 a5 a6 rs ws) false := Ev.succ (by simp only [impl_IsValidTransaction.j1, if_true]; exact Ev.now _)
 have kF : Ev (fun k => impl_IsValidTransaction.j1 k false a0 a1 a2 a3 a4 a5 a6 rs ws) ((rb && decide ((rs.length : Int) ≤ 60)) && wb) := by
  apply Ev.succ
  simp only [impl_IsValidTransaction.j1, Bool.false_eq_true, if_false]
  refine Ev.bind hri ?_
  cases (rb && decide ((rs.length : Int) ≤ 60))
  ·simp only [Bool.false_eq_true, if_false, Bool.false_and]; exact Ev.now _
  ·simp only [if_true, Bool.true_and]; exact Ev.bind hwi (Ev.now _)
 have jF : Ev (fun k => impl_IsValidTransaction.j0 k false a0 a1 a2 a3 a4 a5 a6 rs ws) ((if a2 = 2 then (decide (1 ≤ a6) && decide (a6 ≤ 999)) else (a6 == 0)) && ((rb && decide ((rs.length : Int) ≤ 60)) && wb)) := by
  apply Ev.succ
  simp only [impl_IsValidTransaction.j0, impl_IsStamp.f, in_eq, Bool.false_eq_true, if_false, Option.bind_some]
  by_cases c2 : a2 = 2
  ·simp only [c2, if_true]
   rw [c2] at kT kF
   cases (decide (1 ≤ a6) && decide (a6 ≤ 999))
   ·simp only [Bool.false_eq_true, if_false, Bool.false_and]; exact kT
   ·simp only [if_true, Bool.true_and]; exact kF
  ·simp only [c2, if_false]
   by_cases c6 : a6 = 0
   ·have : (a6 != 0) = false := by simp [c6]
    have h6 : (a6 == 0) = true := by simp [c6]
    simp only [this, h6, Bool.true_and]; exact kF
   ·have : (a6 != 0) = true := by simp [c6]
    have h6 : (a6 == 0) = false := by simp [c6]
    simp only [this, h6, Bool.false_and]; exact kT
 have hi : Ev (fun k => impl_IsValidTransaction.f k a0 a1 a2 a3 a4 a5 a6 rs ws) ((decide (1 ≤ a0) && decide (a0 ≤ 9)) && ((decide (1 ≤ a1) && decide (a1 ≤ 4)) && ((decide (1 ≤ a2) && decide (a2 ≤ 3)) && ((decide (0 ≤ a3) && decide (a3 ≤ 999)) && ((decide (0 ≤ a4) && decide (a4 ≤ 999)) && ((decide (1 ≤ a5) && decide (a5 ≤ 1000)) && ((if a2 = 2 then (decide (1 ≤ a6) && decide (a6 ≤ 999)) else (a6 == 0)) && ((rb && decide ((rs.length : Int) ≤ 60)) && wb)))))))) := by
  revert jF
  generalize ((if a2 = 2 then (decide (1 ≤ a6) && decide (a6 ≤ 999)) else (a6 == 0)) && ((rb && decide ((rs.length : Int) ≤ 60)) && wb)) = bt
  intro jF
  unfold impl_IsValidTransaction.f
  simp only [impl_isID.f, impl_isScheme.f, in_eq, Option.bind_some]
  generalize (decide (1 ≤ a0) && decide (a0 ≤ 9)) = b0
  generalize (decide (1 ≤ a1) && decide (a1 ≤ 4)) = b1
  generalize (decide (1 ≤ a2) && decide (a2 ≤ 3)) = b2
  generalize (decide (0 ≤ a3) && decide (a3 ≤ 999)) = b3
  generalize (decide (0 ≤ a4) && decide (a4 ≤ 999)) = b4
  generalize (decide (1 ≤ a5) && decide (a5 ≤ 1000)) = b5
  cases b0 <;> cases b1 <;> cases b2 <;> cases b3 <;> cases b4 <;> cases b5 <;> simp only [Bool.false_eq_true, if_false, if_true, Bool.false_and, Bool.true_and, Bool.not_true, Bool.not_false, Bool.and_false, Bool.and_true] <;> first | exact jT | exact jF
 refine ⟨_, hrs, ?_, ?_⟩
 ·have he : (rb && (wb && tailOf a0 a1 a2 a3 a4 a5 a6 (rs.length : Int))) = _ := rfl
  have heq : (rb && (wb && tailOf a0 a1 a2 a3 a4 a5 a6 (rs.length : Int))) = ((decide (1 ≤ a0) && decide (a0 ≤ 9)) && ((decide (1 ≤ a1) && decide (a1 ≤ 4)) && ((decide (1 ≤ a2) && decide (a2 ≤ 3)) && ((decide (0 ≤ a3) && decide (a3 ≤ 999)) && ((decide (0 ≤ a4) && decide (a4 ≤ 999)) && ((decide (1 ≤ a5) && decide (a5 ≤ 1000)) && ((if a2 = 2 then (decide (1 ≤ a6) && decide (a6 ≤ 999)) else (a6 == 0)) && ((rb && decide ((rs.length : Int) ≤ 60)) && wb)))))))) := by
   rw [← hc]
   unfold tailOf
   generalize (decide (1 ≤ a0) && decide (a0 ≤ 9)) = b0
   generalize (decide (1 ≤ a1) && decide (a1 ≤ 4)) = b1
   generalize (decide (1 ≤ a2) && decide (a2 ≤ 3)) = b2
   generalize (decide (0 ≤ a3) && decide (a3 ≤ 999)) = b3
   generalize (decide (0 ≤ a4) && decide (a4 ≤ 999)) = b4
   generalize (decide (1 ≤ a5) && decide (a5 ≤ 1000)) = b5
   generalize ((a2 == 2) == decide (a6 > 0)) = b6
   generalize (decide (0 ≤ a6) && decide (a6 ≤ 999)) = b7
   generalize decide ((rs.length : Int) ≤ 60) = b8
   cases b0 <;> cases b1 <;> cases b2 <;> cases b3 <;> cases b4 <;> cases b5 <;> cases b6 <;> cases b7 <;> cases b8 <;> cases rb <;> cases wb <;> rfl
  rw [heq]; exact hi
 ·intro hb
  simp only [tailOf, Bool.and_eq_true] at hb
  obtain ⟨_, hwb, _, _, _, _, h6, h7, _⟩ := hb
  refine ⟨?_, hkeys ((Ev.uniq hwk hwi).trans hwb)⟩
  by_cases c2 : a2 = 2
  ·exact .inl c2
  ·have hcc := hc
   rw [h6, Bool.true_and, if_neg c2] at hcc
   have : (decide (0 ≤ a6) && decide (a6 ≤ 999)) = true := by simp only [Bool.and_eq_true]; exact h7
   rw [this] at hcc
   exact .inr (by simpa using hcc.symm)
def vok (a0 a1 a2 a3 a4 : Int) : Bool := (decide (-1 ≤ a1) && decide (a1 ≤ 99)) && ((decide (0 ≤ a2) && decide (a2 ≤ 999)) && ((decide (a2 ≤ a3) && decide (a3 ≤ 999)) && ((decide (1 ≤ a4) && decide (a4 ≤ 1000)) && (if a2 = 0 then (if a0 = 0 then (a1 == -1) else false) else (decide (1 ≤ a0) && decide (a0 ≤ 9))))))
theorem version_both (a0 a1 a2 a3 a4 : Int) : Ev (fun k => spec_IsValidVersion.f k a0 a1 a2 a3 a4) (vok a0 a1 a2 a3 a4) ∧ Ev (fun k => impl_IsValidVersion.f k a0 a1 a2 a3 a4) (vok a0 a1 a2 a3 a4) := by
 have jS : ∀ t : Bool, Ev (fun k => spec_IsValidVersion.j0 k t a0 a1 a2 a3 a4) (!t && (if a2 = 0 then (if a0 = 0 then (a1 == -1) else false) else (decide (1 ≤ a0) && decide (a0 ≤ 9)))) := by
  intro t
  apply Ev.succ
  cases t
  ·simp only [spec_IsValidVersion.j0, l1In_eq, Bool.false_eq_true, if_false, Option.bind_some, Bool.not_false, Bool.true_and]
   by_cases c : a2 = 0 <;> by_cases d : a0 = 0 <;> simp only [c, d, if_true, if_false] <;> exact Ev.now _
  ·simp only [spec_IsValidVersion.j0, if_true, Bool.not_true, Bool.false_and]; exact Ev.now _
 have jI : ∀ t : Bool, Ev (fun k => impl_IsValidVersion.j0 k t a0 a1 a2 a3 a4) (!t && (if a2 = 0 then (if a0 = 0 then (a1 == -1) else false) else (decide (1 ≤ a0) && decide (a0 ≤ 9)))) := by
  intro t
  apply Ev.succ
  cases t
  ·simp only [impl_IsValidVersion.j0, impl_isID.f, in_eq, Bool.false_eq_true, if_false, Option.bind_some, Bool.not_false, Bool.true_and]
   by_cases c : a2 = 0 <;> by_cases d : a0 = 0 <;> simp only [c, d, if_true, if_false] <;> exact Ev.now _
  ·simp only [impl_IsValidVersion.j0, if_true, Bool.not_true, Bool.false_and]; exact Ev.now _
 unfold vok
 revert jS jI
 generalize (if a2 = 0 then (if a0 = 0 then (a1 == -1) else false) else (decide (1 ≤ a0) && decide (a0 ≤ 9))) = v
 intro jS jI
 constructor
 ·unfold spec_IsValidVersion.f
  simp only [l1In_eq, Option.bind_some]
  cases (decide (-1 ≤ a1) && decide (a1 ≤ 99)) <;> cases (decide (0 ≤ a2) && decide (a2 ≤ 999)) <;> cases (decide (a2 ≤ a3) && decide (a3 ≤ 999)) <;> cases (decide (1 ≤ a4) && decide (a4 ≤ 1000)) <;> simp only [Bool.false_eq_true, if_false, if_true, Bool.false_and, Bool.true_and] <;> first | exact jS true | exact jS false
 ·unfold impl_IsValidVersion.f
  simp only [impl_isValue.f, in_eq, Option.bind_some]
  cases (decide (-1 ≤ a1) && decide (a1 ≤ 99)) <;> cases (decide (0 ≤ a2) && decide (a2 ≤ 999)) <;> cases (decide (a2 ≤ a3) && decide (a3 ≤ 999)) <;> cases (decide (1 ≤ a4) && decide (a4 ≤ 1000)) <;> simp only [Bool.false_eq_true, if_false, if_true, Bool.false_and, Bool.true_and] <;> first | exact jI true | exact jI false
def vat (l : List S52) (j : Nat) : Bool := vok (rd_T52 l (j : Int)).f0 (rd_T52 l (j : Int)).f1 (rd_T52 l (j : Int)).f2 (rd_T52 l (j : Int)).f3 (rd_T52 l (j : Int)).f4
def step (l : List S52) (j : Nat) : Prop := (rd_T52 l (j : Int)).f2 < (rd_T52 l ((j + 1 : Nat) : Int)).f2 ∧ (rd_T52 l (j : Int)).f4 ≤ (rd_T52 l ((j + 1 : Nat) : Int)).f2
def VC (l : List S52) : Prop := (∀ j : Nat, j < l.length → vat l j = true) ∧ (∀ j : Nat, j + 1 < l.length → step l j) ∧ 0 < l.length ∧ (rd_T52 l ((l.length - 1 : Nat) : Int)).f4 = 1000
theorem chain_spec (l : List S52) (hl : l.length ≤ 1048576) : ∃ r, Ev (fun k => spec_IsValidChain.f k l) r ∧ (r = true ↔ VC l) := by
 refine ev_to (σ := Unit) (fun _ i k => spec_IsValidChain.l0 k l (i : Int)) l.length (fun _ i => (∀ j, j < i → vat l j = true) ∧ ∀ j, j < i → j + 1 < l.length → step l j) (fun r => r = true ↔ VC l) ?_ ?_ () 0 (Nat.zero_le _) ⟨fun j hj => absurd hj (by omega), fun j hj => absurd hj (by omega)⟩
 ·rintro _ i hi ⟨hv, hs⟩ ih
  have h1 : (i : Int) < (l.length : Int) := by omega
  have e0 := wrap_up hi (by omega)
  have ev := (version_both (rd_T52 l (i : Int)).f0 (rd_T52 l (i : Int)).f1 (rd_T52 l (i : Int)).f2 (rd_T52 l (i : Int)).f3 (rd_T52 l (i : Int)).f4).1
  have hf : ∀ {P : Prop}, ¬ P → ((false = true) ↔ P) := fun h => ⟨fun h' => (nomatch h'), fun h' => absurd h' h⟩
  apply ex_succ
  simp only [spec_IsValidChain.l0]
  rw [e0]
  refine ex_ite (fun _ => ?_) (fun c => absurd h1 c)
  refine ex_ite (fun _ => ?_) (fun c => absurd (Int.natCast_nonneg i) c)
  refine ex_bindE ev ?_
  have hva : vat l i = vok (rd_T52 l (i : Int)).f0 (rd_T52 l (i : Int)).f1 (rd_T52 l (i : Int)).f2 (rd_T52 l (i : Int)).f3 (rd_T52 l (i : Int)).f4 := rfl
  refine ex_ite (fun c1 => ?_) (fun c1 => ex_now (hf (fun h => c1 (by rw [← hva]; exact h.1 i hi))))
  have hv' : ∀ j, j < i + 1 → vat l j = true := fun j hj => if hh : j < i then hv j hh else by obtain rfl : j = i := (by omega); rw [hva]; exact c1
  refine ex_ite (fun c2 => ?_) (fun c2 => ih () ⟨hv', fun j hj hjl => if hh : j < i then hs j hh hjl else by omega⟩)
  have c2' : i + 1 < l.length := by omega
  refine ex_ite (fun _ => ?_) (fun c => absurd (Int.natCast_nonneg _) c)
  refine ex_ite (fun c3 => ex_now (hf (fun h => by have := (h.2.1 i c2').1; omega))) (fun c3 => ?_)
  refine ex_ite (fun c4 => ex_now (hf (fun h => by have := (h.2.1 i c2').2; omega))) (fun c4 => ?_)
  exact ih () ⟨hv', fun j hj hjl => if hh : j < i then hs j hh hjl else by obtain rfl : j = i := (by omega); exact ⟨by omega, by omega⟩⟩
 ·rintro _ ⟨hv, hs⟩
  have hf : ∀ {P : Prop}, ¬ P → ((false = true) ↔ P) := fun h => ⟨fun h' => (nomatch h'), fun h' => absurd h' h⟩
  apply ex_succ
  simp only [spec_IsValidChain.l0]
  refine ex_ite (fun c => absurd c (Int.lt_irrefl _)) (fun _ => ?_)
  refine ex_ite (fun c1 => ?_) (fun c1 => ex_now (hf (fun h => c1 (by have := h.2.2.1; omega))))
  have e1 : wrap64 ((l.length : Int) - 1) = ((l.length - 1 : Nat) : Int) := wrap_down (by omega) (by omega)
  rw [e1]
  refine ex_ite (fun _ => ?_) (fun c => absurd (Int.natCast_nonneg _) c)
  refine ex_ite (fun _ => ex_now ?_) (fun c => absurd (by omega) c)
  rw [beq_iff_eq]
  exact ⟨fun h => ⟨hv, fun j hj => hs j (by omega) hj, by omega, h⟩, fun h => h.2.2.2⟩
theorem chain_impl (l : List S52) (hl : l.length ≤ 1048576) : ∃ r, Ev (fun k => impl_IsValidChain.f k l) r ∧ (r = true ↔ VC l) := by
 refine ev_to (σ := Unit) (fun _ i k => impl_IsValidChain.l0 k l l (l.length : Int) (i : Int)) l.length (fun _ i => (∀ j, j < i → vat l j = true) ∧ ∀ j, j + 1 < i → step l j) (fun r => r = true ↔ VC l) ?_ ?_ () 0 (Nat.zero_le _) ⟨fun j hj => absurd hj (by omega), fun j hj => absurd hj (by omega)⟩
 ·rintro _ i hi ⟨hv, hs⟩ ih
  have h1 : (i : Int) < (l.length : Int) := by omega
  have e0 := wrap_up hi (by omega)
  have ev := (version_both (rd_T52 l (i : Int)).f0 (rd_T52 l (i : Int)).f1 (rd_T52 l (i : Int)).f2 (rd_T52 l (i : Int)).f3 (rd_T52 l (i : Int)).f4).2
  have hf : ∀ {P : Prop}, ¬ P → ((false = true) ↔ P) := fun h => ⟨fun h' => (nomatch h'), fun h' => absurd h' h⟩
  have hva : vat l i = vok (rd_T52 l (i : Int)).f0 (rd_T52 l (i : Int)).f1 (rd_T52 l (i : Int)).f2 (rd_T52 l (i : Int)).f3 (rd_T52 l (i : Int)).f4 := rfl
  apply ex_succ
  simp only [impl_IsValidChain.l0]
  rw [e0]
  refine ex_ite (fun _ => ?_) (fun c => absurd h1 c)
  refine ex_ite (fun _ => ?_) (fun c => absurd (Int.natCast_nonneg i) c)
  refine ex_ite (fun _ => ?_) (fun c => absurd h1 c)
  refine ex_bindE ev ?_
  refine ex_ite (fun c1 => ?_) (fun c1 => ex_now (hf (fun h => c1 (by rw [← hva]; exact h.1 i hi))))
  have hv' : ∀ j, j < i + 1 → vat l j = true := fun j hj => if hh : j < i then hv j hh else by obtain rfl : j = i := (by omega); rw [hva]; exact c1
  refine ex_ite (fun c2 => ?_) (fun c2 => ih () ⟨hv', fun j hj => if hh : j + 1 < i then hs j hh else by omega⟩)
  have e1 : wrap64 ((i : Int) - 1) = ((i - 1 : Nat) : Int) := wrap_down (by omega) (by omega)
  rw [e1]
  refine ex_ite (fun _ => ?_) (fun c => absurd (Int.natCast_nonneg _) c)
  refine ex_ite (fun _ => ?_) (fun c => absurd (by omega) c)
  have hst : ∀ h : VC l, step l (i - 1) := fun h => h.2.1 (i - 1) (by omega)
  have hi1 : i - 1 + 1 = i := by omega
  refine ex_ite (fun c3 => ex_now (hf (fun h => by have := (hst h).1; rw [hi1] at this; omega))) (fun c3 => ?_)
  refine ex_ite (fun c4 => ex_now (hf (fun h => by have := (hst h).2; rw [hi1] at this; omega))) (fun c4 => ?_)
  exact ih () ⟨hv', fun j hj => if hh : j + 1 < i then hs j hh else by obtain rfl : j = i - 1 := (by omega); exact ⟨by rw [hi1]; omega, by rw [hi1]; omega⟩⟩
 ·rintro _ ⟨hv, hs⟩
  have hf : ∀ {P : Prop}, ¬ P → ((false = true) ↔ P) := fun h => ⟨fun h' => (nomatch h'), fun h' => absurd h' h⟩
  apply ex_succ
  simp only [impl_IsValidChain.l0]
  refine ex_ite (fun c => absurd c (Int.lt_irrefl _)) (fun _ => ?_)
  refine ex_ite (fun c1 => ?_) (fun c1 => ex_now (hf (fun h => c1 (by have := h.2.2.1; omega))))
  have e1 : wrap64 ((l.length : Int) - 1) = ((l.length - 1 : Nat) : Int) := wrap_down (by omega) (by omega)
  rw [e1]
  refine ex_ite (fun _ => ?_) (fun c => absurd (Int.natCast_nonneg _) c)
  refine ex_ite (fun _ => ex_now ?_) (fun c => absurd (by omega) c)
  rw [beq_iff_eq]
  exact ⟨fun h => ⟨hv, fun j hj => hs j (by omega), by omega, h⟩, fun h => h.2.2.2⟩
theorem store_both (l : List (List S52)) (hl : l.length ≤ 1048576) (he : ∀ e ∈ l, e.length ≤ 1048576) : ∃ r, Ev (fun k => spec_IsValidStore.f k l) r ∧ Ev (fun k => impl_IsValidStore.f k l) r ∧ (r = true ↔ (∀ e ∈ l, VC e ∧ e.length ≤ 50) ∧ l.length = 6) := by
 have hf : ∀ {P : Prop}, ¬ P → ((false = true) ↔ P) := fun h => ⟨fun h' => (nomatch h'), fun h' => absurd h' h⟩
 have hS : ∃ r, Ev (fun k => spec_IsValidStore.f k l) r ∧ (r = true ↔ (∀ e ∈ l, VC e ∧ e.length ≤ 50) ∧ l.length = 6) := by
  refine ev_to (σ := Unit) (fun _ i k => spec_IsValidStore.l0 k (i : Int) l) l.length (fun _ i => ∀ j (hj : j < l.length), j < i → VC l[j] ∧ l[j].length ≤ 50) (fun r => r = true ↔ (∀ e ∈ l, VC e ∧ e.length ≤ 50) ∧ l.length = 6) ?_ ?_ () 0 (Nat.zero_le _) (fun j _ hj => absurd hj (by omega))
  ·intro _ i hi hI ih
   have h1 : (i : Int) < (l.length : Int) := by omega
   have hrd : rd_L3 l (i : Int) = l[i] := by simp [rd_L3, hi]
   obtain ⟨r, er, hr⟩ := chain_spec l[i] (he _ (List.getElem_mem hi))
   apply ex_succ
   simp only [spec_IsValidStore.l0]
   rw [wrap_up hi (by omega), hrd]
   refine ex_ite (fun _ => ?_) (fun c => absurd h1 c)
   refine ex_ite (fun _ => ?_) (fun c => absurd (Int.natCast_nonneg i) c)
   refine ex_bindE er ?_
   refine ex_ite (fun c1 => ?_) (fun c1 => ex_now (hf (fun h => c1 (hr.2 (h.1 _ (List.getElem_mem hi)).1))))
   have hvc := hr.1 c1
   have hnext : l[i].length ≤ 50 → ∀ j (hj : j < l.length), j < i + 1 → VC l[j] ∧ l[j].length ≤ 50 := fun h50 j hj hji => if hh : j < i then hI j hj hh else by obtain rfl : j = i := (by omega); exact ⟨hvc, h50⟩
   have hbig : (l[i].length : Int) > 50 → ¬ ((∀ e ∈ l, VC e ∧ e.length ≤ 50) ∧ l.length = 6) := fun h h' => by have := (h'.1 _ (List.getElem_mem hi)).2; omega
   refine ex_ite (fun _ => ?_) (fun c => absurd (by have := hvc.2.2.1; omega) c)
   exact ex_ite (fun _ => ex_ite (fun c => ex_now (hf (hbig c))) (fun c => ih () (hnext (by omega)))) (fun _ => ex_ite (fun c => ex_now (hf (hbig c))) (fun c => ih () (hnext (by omega))))
  ·intro _ hI
   apply ex_succ
   simp only [spec_IsValidStore.l0]
   refine ex_ite (fun c => absurd c (Int.lt_irrefl _)) (fun _ => ex_now ?_)
   rw [beq_iff_eq]
   refine ⟨fun h => ⟨fun e hm => ?_, by omega⟩, fun h => by omega⟩
   obtain ⟨j, hj, rfl⟩ := List.getElem_of_mem hm
   exact hI j hj hj
 have hI : ∃ r, Ev (fun k => impl_IsValidStore.f k l) r ∧ (r = true ↔ (∀ e ∈ l, VC e ∧ e.length ≤ 50) ∧ l.length = 6) := by
  unfold impl_IsValidStore.f
  refine ex_ite (fun c => ?_) (fun c => ex_now (hf (fun h => c (by omega))))
  have key : ∃ q, Ev (fun k => impl_Version_107.f k l) q ∧ ((decide (q ≥ 0) = false) ↔ (∀ e ∈ l, VC e ∧ e.length ≤ 50)) := by
   refine ev_to (σ := Unit) (fun _ i k => impl_Version_107.l0 k l (l.length : Int) (i : Int)) l.length (fun _ i => ∀ j (hj : j < l.length), j < i → VC l[j] ∧ l[j].length ≤ 50) (fun q => (decide (q ≥ 0) = false) ↔ (∀ e ∈ l, VC e ∧ e.length ≤ 50)) ?_ ?_ () 0 (Nat.zero_le _) (fun j _ hj => absurd hj (by omega))
   ·intro _ i hi hI ih
    have h1 : (i : Int) < (l.length : Int) := by omega
    have hrd : rd_L3 l (i : Int) = l[i] := by simp [rd_L3, hi]
    obtain ⟨r, er, hr⟩ := chain_impl l[i] (he _ (List.getElem_mem hi))
    have e1 : ∃ t, Ev (fun k => impl_IsValidStore_1.f k l[i]) t ∧ (t = true ↔ ¬ (VC l[i] ∧ l[i].length ≤ 50)) := by
     unfold impl_IsValidStore_1.f
     refine ex_bindE er ?_
     refine ex_ite (fun c1 => ex_now ?_) (fun c1 => ex_now ⟨fun _ h => c1 (hr.2 h.1), fun _ => rfl⟩)
     rw [decide_eq_true_eq]
     exact ⟨fun h h' => by have := h'.2; omega, fun h => by
      by_cases q : l[i].length ≤ 50
      ·exact absurd ⟨hr.1 c1, q⟩ h
      ·omega⟩
    obtain ⟨t, et, htt⟩ := e1
    apply ex_succ
    simp only [impl_Version_107.l0]
    rw [wrap_up hi (by omega), hrd]
    refine ex_ite (fun _ => ?_) (fun c => absurd h1 c)
    refine ex_ite (fun _ => ?_) (fun c => absurd (Int.natCast_nonneg i) c)
    refine ex_ite (fun _ => ?_) (fun c => absurd h1 c)
    refine ex_bindE et ?_
    refine ex_ite (fun c1 => ex_now ?_) (fun c1 => ih () (fun j hj hji => if hh : j < i then hI j hj hh else by
     obtain rfl : j = i := by omega
     exact Classical.byContradiction (fun h => c1 (htt.2 h))))
    have hn := htt.1 c1
    have : decide ((i : Int) ≥ 0) = true := decide_eq_true (Int.natCast_nonneg i)
    rw [this]
    exact ⟨fun h => (nomatch h), fun h => absurd (h _ (List.getElem_mem hi)) hn⟩
   ·intro _ hI
    apply ex_succ
    simp only [impl_Version_107.l0]
    refine ex_ite (fun c => absurd c (Int.lt_irrefl _)) (fun _ => ex_now ⟨fun _ e hm => ?_, fun _ => by decide⟩)
    obtain ⟨j, hj, rfl⟩ := List.getElem_of_mem hm
    exact hI j hj hj
  obtain ⟨q, eq, hq⟩ := key
  refine ex_bindE (a := decide (q ≥ 0)) (Ev.bind eq (Ev.now _)) (ex_now ?_)
  rw [Bool.not_eq_true']
  exact ⟨fun h => ⟨hq.1 h, by omega⟩, fun h => hq.2 h.1⟩
 obtain ⟨r, h1, h2⟩ := hS
 obtain ⟨r', h1', h2'⟩ := hI
 have : r = r' := by rw [Bool.eq_iff_iff]; exact h2.trans h2'.symm
 subst this
 exact ⟨r, h1, h1', h2⟩
theorem version_at (c : List S52) (st : Int) (hl : c.length ≤ 1048576) (hv : VC c) : ∃ p : Int, Ev (fun k => spec_VersionAt.f k c st) p ∧ (p = -1 ∨ ∃ t : Nat, p = (t : Int) ∧ t < c.length ∧ (rd_T52 c (t : Int)).f2 ≤ st) ∧ ∀ j : Nat, j < c.length → p < (j : Int) → (rd_T52 c (j : Int)).f2 > st := by
 obtain ⟨r, er, hr⟩ := chain_spec c hl
 obtain rfl := hr.2 hv
 refine ev_to (σ := Int) (fun s i k => spec_VersionAt.l0 k c st s (i : Int)) c.length (fun s i => (s = -1 ∨ ∃ t : Nat, s = (t : Int) ∧ t < c.length ∧ (rd_T52 c (t : Int)).f2 ≤ st) ∧ ∀ j : Nat, j < i → s < (j : Int) → (rd_T52 c (j : Int)).f2 > st) (fun p => (p = -1 ∨ ∃ t : Nat, p = (t : Int) ∧ t < c.length ∧ (rd_T52 c (t : Int)).f2 ≤ st) ∧ ∀ j : Nat, j < c.length → p < (j : Int) → (rd_T52 c (j : Int)).f2 > st) ?_ ?_ (-1) 0 (Nat.zero_le _) ⟨.inl rfl, fun j hj => absurd hj (by omega)⟩
 ·rintro s i hi ⟨hs, hI⟩ ih
  have h1 : (i : Int) < (c.length : Int) := by omega
  apply ex_succ
  simp only [spec_VersionAt.l0]
  refine ex_ite (fun _ => ?_) (fun g => absurd h1 g)
  refine ex_bindE er ?_
  apply ex_succ
  simp only [spec_VersionAt.j1]
  rw [wrap_up hi (by omega)]
  refine ex_ite (fun _ => ?_) (fun g => absurd (by simp) g)
  refine ex_ite (fun _ => ?_) (fun g => absurd (Int.natCast_nonneg i) g)
  refine ex_ite (fun _ => ?_) (fun g => absurd h1 g)
  refine ex_ite (fun g => ih _ ⟨.inr ⟨i, rfl, hi, g⟩, fun j hj hj' => absurd hj' (by omega)⟩) (fun g => ih _ ⟨hs, fun j hj hj' => if hh : j < i then hI j hh hj' else by obtain rfl : j = i := (by omega); omega⟩)
 ·rintro s ⟨hs, hI⟩
  apply ex_succ
  simp only [spec_VersionAt.l0]
  refine ex_ite (fun g => absurd g (Int.lt_irrefl _)) (fun _ => ?_)
  apply ex_succ
  simp only [spec_VersionAt.j1]
  exact ex_ite (fun g => absurd g (by simp)) (fun _ => ex_now ⟨hs, hI⟩)
theorem version_impl (c : List S52) (st : Int) (hl : c.length ≤ 1048576) : ∃ p : Int, Ev (fun k => impl_versionAt.f k c st) p ∧ (p = -1 ∨ ∃ t : Nat, p = (t : Int) ∧ t < c.length ∧ (rd_T52 c (t : Int)).f2 ≤ st) ∧ ∀ j : Nat, j < c.length → p < (j : Int) → (rd_T52 c (j : Int)).f2 > st := by
 have key : ∀ n : Nat, n ≤ c.length → (∀ j : Nat, n ≤ j → j < c.length → (rd_T52 c (j : Int)).f2 > st) → ∃ p : Int, Ev (fun k => impl_versionAt.l0 k c st ((n : Int) - 1)) p ∧ (p = -1 ∨ ∃ t : Nat, p = (t : Int) ∧ t < c.length ∧ (rd_T52 c (t : Int)).f2 ≤ st) ∧ ∀ j : Nat, j < c.length → p < (j : Int) → (rd_T52 c (j : Int)).f2 > st := by
  intro n
  induction n with
  | zero =>
   intro _ h
   apply ex_succ
   simp only [impl_versionAt.l0]
   exact ex_ite (fun g => absurd g (by decide)) (fun _ => ex_now ⟨.inl (by decide), fun j hj _ => h j (Nat.zero_le _) hj⟩)
  | succ n ih =>
   intro hn h
   rw [show ((n + 1 : Nat) : Int) - 1 = (n : Int) by omega]
   have hw : wrap64 ((n : Int) - 1) = (n : Int) - 1 := wrap_in (by omega) (by omega)
   apply ex_succ
   simp only [impl_versionAt.l0]
   rw [hw]
   refine ex_ite (fun _ => ?_) (fun g => absurd (Int.natCast_nonneg n) g)
   refine ex_ite (fun _ => ?_) (fun g => absurd (Int.natCast_nonneg n) g)
   refine ex_ite (fun _ => ?_) (fun g => absurd (show (n : Int) < (c.length : Int) by omega) g)
   exact ex_ite (fun g => ih (by omega) (fun j hj hjl => if hh : n + 1 ≤ j then h j hh hjl else by obtain rfl : j = n := (by omega); exact g)) (fun g => ex_now ⟨.inr ⟨n, rfl, by omega, by omega⟩, fun j hj hjn => h j (by omega) hj⟩)
 unfold impl_versionAt.f
 rw [show wrap64 ((c.length : Int) - 1) = (c.length : Int) - 1 from wrap_in (by omega) (by omega)]
 exact key c.length (Nat.le_refl _) (fun j hj hjl => absurd hjl (by omega))
theorem at_both (c : List S52) (st : Int) (hl : c.length ≤ 1048576) (hv : VC c) : ∃ p : Int, Ev (fun k => spec_VersionAt.f k c st) p ∧ Ev (fun k => impl_versionAt.f k c st) p ∧ (p = -1 ∨ ∃ t : Nat, p = (t : Int) ∧ t < c.length ∧ (rd_T52 c (t : Int)).f2 ≤ st) := by
 obtain ⟨p, e1, h1, g1⟩ := version_at c st hl hv
 obtain ⟨q, e2, h2, g2⟩ := version_impl c st hl
 have : p = q := by
  rcases h1 with rfl | ⟨t, rfl, ht, hle⟩
  ·rcases h2 with rfl | ⟨u, rfl, hu, hle2⟩
   ·rfl
   ·exact absurd (g1 u hu (by omega)) (by omega)
  ·rcases h2 with rfl | ⟨u, rfl, hu, hle2⟩
   ·exact absurd (g2 t ht (by omega)) (by omega)
   ·rcases Int.lt_trichotomy (t : Int) (u : Int) with h | h | h
    ·exact absurd (g1 u hu h) (by omega)
    ·exact h
    ·exact absurd (g2 t ht h) (by omega)
 subst this
 exact ⟨p, e1, e2, h1⟩
theorem latest_spec (c : List S52) (hl : c.length ≤ 1048576) (hv : VC c) : Ev (fun k => spec_LatestVersion.f k c) ((rd_T52 c ((c.length - 1 : Nat) : Int)).f0, (rd_T52 c ((c.length - 1 : Nat) : Int)).f1, (rd_T52 c ((c.length - 1 : Nat) : Int)).f2, (rd_T52 c ((c.length - 1 : Nat) : Int)).f3, (rd_T52 c ((c.length - 1 : Nat) : Int)).f4) := by
 obtain ⟨r, er, hr⟩ := chain_spec c hl
 obtain rfl := hr.2 hv
 have hp := hv.2.2.1
 have hw : wrap64 ((c.length : Int) - 1) = ((c.length - 1 : Nat) : Int) := wrap_down hp (by omega)
 have h1 : ((c.length - 1 : Nat) : Int) < (c.length : Int) := by omega
 unfold spec_LatestVersion.f
 refine Ev.bind er ?_
 simp only [hw, h1, Int.natCast_nonneg, if_true]; exact Ev.now _
def ChF (l : List (List S52)) (a1 a3 key : Int) (r : Int × Int × Int × Int × Int × Int) : Prop := r.2.2.2.2.2 = 6 ∨ r.2.2.2.2.2 = 3 ∨ (r.2.2.2.2.2 = 0 ∧ (a1 = 2 → r.2.2.1 ≤ a3) ∧ (¬ a1 = 2 → 0 ≤ key ∧ key < (l.length : Int) ∧ Ev (fun k => spec_LatestVersion.f k (rd_L3 l key)) (r.1, r.2.1, r.2.2.1, r.2.2.2.1, r.2.2.2.2.1)))
theorem both_Choose2 (l : List (List S52)) (a0 a1 a2 a3 a4 a5 a6 : Int) (rs : List S116) (ws : List S103) (key : Int) (hl : l.length ≤ 1048576 ∧ ∀ e ∈ l, e.length ≤ 1048576) (hr : rs.length ≤ 1048576) (hw : ws.length ≤ 1048576) : ∃ r, Ev (fun k => spec_ChooseVersion.f k l a0 a1 a2 a3 a4 a5 a6 rs ws key) r ∧ Ev (fun k => impl_ChooseVersion.f k l a0 a1 a2 a3 a4 a5 a6 rs ws key) r ∧ ChF l a1 a3 key r := by
 obtain ⟨v, s1, i1, hv⟩ := store_both l hl.1 hl.2
 obtain ⟨b, s2, i2, _⟩ := both_IsValidTransaction3 a0 a1 a2 a3 a4 a5 a6 rs ws hr hw
 have bad : Ev (fun k => spec_l12Good.f k l a0 a1 a2 a3 a4 a5 a6 rs ws key) false → Ev (fun k => spec_ChooseVersion.f k l a0 a1 a2 a3 a4 a5 a6 rs ws key) (0, 0, 0, 0, 0, 6) := by
  intro h
  unfold spec_ChooseVersion.f
  refine Ev.bind h ?_
  simp only [Bool.false_eq_true, if_false]; exact Ev.now _
 cases v
 ·refine ⟨(0, 0, 0, 0, 0, 6), bad ?_, ?_, Or.inl rfl⟩
  ·unfold spec_l12Good.f
   exact Ev.bind s1 (by simp only [Bool.false_eq_true, if_false]; exact Ev.now _)
  ·unfold impl_ChooseVersion.f
   exact Ev.bind i1 (by simp only [Bool.false_eq_true, if_false]; exact Ev.now _)
 by_cases hst : a2 = 1
 rotate_left 1
 ·refine ⟨(0, 0, 0, 0, 0, 6), bad ?_, ?_, Or.inl rfl⟩
  ·unfold spec_l12Good.f
   refine Ev.bind s1 ?_
   simp only [if_true]
   refine Ev.bind s2 ?_
   cases b
   ·simp only [Bool.false_eq_true, if_false]; exact Ev.now _
   ·simp only [hst, if_true, if_false]; exact Ev.now _
  ·unfold impl_ChooseVersion.f impl_Transaction_isActive.f
   refine Ev.bind i1 ?_
   simp only [hst, if_true, if_false, Option.bind_some, Bool.false_eq_true]; exact Ev.now _
 cases b
 ·refine ⟨(0, 0, 0, 0, 0, 6), bad ?_, ?_, Or.inl rfl⟩
  ·unfold spec_l12Good.f
   refine Ev.bind s1 ?_
   simp only [if_true]
   exact Ev.bind s2 (by simp only [Bool.false_eq_true, if_false]; exact Ev.now _)
  ·unfold impl_ChooseVersion.f impl_Transaction_isActive.f
   refine Ev.bind i1 ?_
   simp only [hst, if_true]
   subst hst
   exact Ev.bind (a := false) (Ev.bind i2 (Ev.now _)) (by simp only [Bool.false_eq_true, if_false]; exact Ev.now _)
 have hact : Ev (fun k => impl_Transaction_isActive.f k a0 a1 a2 a3 a4 a5 a6 rs ws) true := by
  unfold impl_Transaction_isActive.f
  simp only [hst, if_true]
  subst hst
  exact Ev.bind i2 (Ev.now _)
 by_cases hk : 0 ≤ key ∧ key ≤ 5
 rotate_left 1
 ·have g0 : (decide (0 ≤ key) && decide (key ≤ 5)) = false := by
   rw [Bool.and_eq_false_iff, decide_eq_false_iff_not, decide_eq_false_iff_not]; omega
  refine ⟨(0, 0, 0, 0, 0, 6), bad ?_, ?_, Or.inl rfl⟩
  ·unfold spec_l12Good.f
   refine Ev.bind s1 ?_
   simp only [if_true]
   refine Ev.bind s2 ?_
   simp only [hst, if_true, l1In_eq, g0, Option.bind_some]; exact Ev.now _
  ·unfold impl_ChooseVersion.f
   refine Ev.bind i1 ?_
   simp only [if_true]
   refine Ev.bind hact ?_
   simp only [if_true, impl_isKey.f, in_eq, g0, Option.bind_some, Bool.false_eq_true, if_false]; exact Ev.now _
 obtain ⟨hk0, hk5⟩ := hk
 have g0 : (decide (0 ≤ key) && decide (key ≤ 5)) = true := by simp [hk0, hk5]
 obtain ⟨hW, h6⟩ := hv.1 rfl
 obtain ⟨q, rfl⟩ := Int.eq_ofNat_of_zero_le hk0
 have hq : q < l.length := by omega
 have hql : (q : Int) < (l.length : Int) := by omega
 obtain ⟨c, hc⟩ : ∃ c, c = l[q] := ⟨_, rfl⟩
 have hrd : rd_L3 l (q : Int) = c := by rw [hc]; simp [rd_L3, hq]
 obtain ⟨hVC, h50⟩ := hW _ (List.getElem_mem hq)
 rw [← hc] at hVC h50
 have hp := hVC.2.2.1
 have hgood : Ev (fun k => spec_l12Good.f k l a0 a1 a2 a3 a4 a5 a6 rs ws (q : Int)) true := by
  unfold spec_l12Good.f
  refine Ev.bind s1 ?_
  simp only [if_true]
  refine Ev.bind s2 ?_
  simp only [hst, if_true, l1In_eq, g0, Option.bind_some]; exact Ev.now _
 have hlat := latest_spec c (by omega) hVC
 have hwl : wrap64 ((c.length : Int) - 1) = ((c.length - 1 : Nat) : Int) := wrap_down hp (by omega)
 have hL : ((c.length - 1 : Nat) : Int) < (c.length : Int) := by omega
 have hL0 : ¬ (((c.length - 1 : Nat) : Int) < 0) := by omega
 have hfin : ∀ r, Ev (fun k => spec_ChooseVersion.f k l a0 a1 a2 a3 a4 a5 a6 rs ws (q : Int)) r → Ev (fun k => impl_Store_choose.f k l a0 a1 a2 a3 a4 a5 a6 rs ws (q : Int)) r → ChF l a1 a3 (q : Int) r → ∃ r, Ev (fun k => spec_ChooseVersion.f k l a0 a1 a2 a3 a4 a5 a6 rs ws (q : Int)) r ∧ Ev (fun k => impl_ChooseVersion.f k l a0 a1 a2 a3 a4 a5 a6 rs ws (q : Int)) r ∧ ChF l a1 a3 (q : Int) r := by
  rintro r h1 h2 h3
  refine ⟨r, h1, ?_, h3⟩
  unfold impl_ChooseVersion.f
  refine Ev.bind i1 ?_
  simp only [if_true]
  refine Ev.bind hact ?_
  simp only [if_true, impl_isKey.f, in_eq, g0, Option.bind_some]
  exact Ev.bind h2 (Ev.now _)
 have jT : ∀ p : Int, Ev (fun k => impl_Store_choose.j1 k c p true) (0, 0, 0, 0, 0, 3) := fun p => Ev.succ (by simp only [impl_Store_choose.j1, if_true]; exact Ev.now _)
 have jF : ∀ t : Nat, t < c.length → Ev (fun k => impl_Store_choose.j1 k c (t : Int) false) ((rd_T52 c (t : Int)).f0, (rd_T52 c (t : Int)).f1, (rd_T52 c (t : Int)).f2, (rd_T52 c (t : Int)).f3, (rd_T52 c (t : Int)).f4, 0) := fun t ht => by
  have h1 : (t : Int) < (c.length : Int) := by omega
  exact Ev.succ (by simp only [impl_Store_choose.j1, Bool.false_eq_true, if_false, h1, Int.natCast_nonneg, if_true]; exact Ev.now _)
 by_cases h2 : a1 = 2
 ·have h4 : ¬ a1 = 4 := by omega
  obtain ⟨p, e1, e2, hp'⟩ := at_both c a3 (by omega) hVC
  have hread : ∀ r, Ev (fun k => spec_ReadAt.f k l (q : Int) a3) r → ∀ w, w = (if r.2.2.2.2.2 = true then (r.1, r.2.1, r.2.2.1, r.2.2.2.1, r.2.2.2.2.1, 0) else (0, 0, 0, 0, 0, 3)) → Ev (fun k => spec_ChooseVersion.f k l a0 a1 a2 a3 a4 a5 a6 rs ws (q : Int)) w := by
   intro r hr w hw
   unfold spec_ChooseVersion.f
   refine Ev.bind hgood ?_
   simp only [if_true, hql, hrd, Int.natCast_nonneg]
   refine Ev.bind hlat ?_
   simp only [if_pos h2]
   refine Ev.bind hr ?_
   subst hw
   by_cases g : r.2.2.2.2.2 = true
   ·simp only [if_pos g]; exact Ev.now _
   ·simp only [if_neg g]; exact Ev.now _
  rcases hp' with rfl | ⟨t, rfl, ht, htc⟩
  ·refine hfin (0, 0, 0, 0, 0, 3) (hread (0, 0, 0, 0, 0, false) ?_ _ (by simp)) ?_ (Or.inr (Or.inl rfl))
   ·unfold spec_ReadAt.f
    refine Ev.bind s1 ?_
    simp only [if_true, l1In_eq, g0, Option.bind_some, Bool.not_true]
    apply Ev.succ
    simp only [spec_ReadAt.j0, Bool.false_eq_true, if_false, hql, hrd, Int.natCast_nonneg, if_true]
    exact Ev.bind e1 (by simp only [show ((-1 : Int) < 0) from by decide, if_true]; exact Ev.now _)
   ·unfold impl_Store_choose.f
    simp only [hql, hrd, Int.natCast_nonneg, if_true, if_pos h2]
    refine Ev.bind e2 ?_
    apply Ev.succ
    simp only [impl_Store_choose.j0, show ((-1 : Int) < 0) from by decide, if_true]
    exact jT _
  ·have ht1 : (t : Int) < (c.length : Int) := by omega
   have ht0 : ¬ ((t : Int) < 0) := by omega
   refine hfin _ (hread ((rd_T52 c (t : Int)).f0, (rd_T52 c (t : Int)).f1, (rd_T52 c (t : Int)).f2, (rd_T52 c (t : Int)).f3, (rd_T52 c (t : Int)).f4, true) ?_ _ (by simp; rfl)) ?_ (Or.inr (Or.inr ⟨rfl, fun _ => htc, fun h => absurd h2 h⟩))
   ·unfold spec_ReadAt.f
    refine Ev.bind s1 ?_
    simp only [if_true, l1In_eq, g0, Option.bind_some, Bool.not_true]
    apply Ev.succ
    simp only [spec_ReadAt.j0, Bool.false_eq_true, if_false, hql, hrd, Int.natCast_nonneg, if_true]
    exact Ev.bind e1 (by simp only [ht0, ht1, Int.natCast_nonneg, if_true, if_false]; exact Ev.now _)
   ·unfold impl_Store_choose.f
    simp only [hql, hrd, Int.natCast_nonneg, if_true, if_pos h2]
    refine Ev.bind e2 ?_
    apply Ev.succ
    simp only [impl_Store_choose.j0, ht0, if_false, if_neg h4]
    exact jF t ht
 by_cases h4 : a1 = 4
 ·by_cases g : (rd_T52 c ((c.length - 1 : Nat) : Int)).f2 > a3
  ·refine hfin (0, 0, 0, 0, 0, 3) ?_ ?_ (Or.inr (Or.inl rfl))
   ·unfold spec_ChooseVersion.f
    refine Ev.bind hgood ?_
    simp only [if_true, hql, hrd, Int.natCast_nonneg]
    refine Ev.bind hlat ?_
    simp only [if_neg h2, if_pos h4, if_pos g]; exact Ev.now _
   ·unfold impl_Store_choose.f
    simp only [hql, hrd, hwl, Int.natCast_nonneg, if_true, if_neg h2]
    apply Ev.succ
    simp only [impl_Store_choose.j0, hL0, hL, if_false, if_pos h4, Int.natCast_nonneg, if_true, decide_eq_true g]
    exact jT _
  ·refine hfin ((rd_T52 c ((c.length - 1 : Nat) : Int)).f0, (rd_T52 c ((c.length - 1 : Nat) : Int)).f1, (rd_T52 c ((c.length - 1 : Nat) : Int)).f2, (rd_T52 c ((c.length - 1 : Nat) : Int)).f3, (rd_T52 c ((c.length - 1 : Nat) : Int)).f4, 0) ?_ ?_ (Or.inr (Or.inr ⟨rfl, fun h => absurd h h2, fun _ => ⟨Int.natCast_nonneg _, hql, by rw [hrd]; exact hlat⟩⟩))
   ·unfold spec_ChooseVersion.f
    refine Ev.bind hgood ?_
    simp only [if_true, hql, hrd, Int.natCast_nonneg]
    refine Ev.bind hlat ?_
    simp only [if_neg h2, if_pos h4, if_neg g]; exact Ev.now _
   ·unfold impl_Store_choose.f
    simp only [hql, hrd, hwl, Int.natCast_nonneg, if_true, if_neg h2]
    apply Ev.succ
    simp only [impl_Store_choose.j0, hL0, hL, if_false, if_pos h4, Int.natCast_nonneg, if_true, decide_eq_false g]
    exact jF _ (by omega)
 ·refine hfin ((rd_T52 c ((c.length - 1 : Nat) : Int)).f0, (rd_T52 c ((c.length - 1 : Nat) : Int)).f1, (rd_T52 c ((c.length - 1 : Nat) : Int)).f2, (rd_T52 c ((c.length - 1 : Nat) : Int)).f3, (rd_T52 c ((c.length - 1 : Nat) : Int)).f4, 0) ?_ ?_ (Or.inr (Or.inr ⟨rfl, fun h => absurd h h2, fun _ => ⟨Int.natCast_nonneg _, hql, by rw [hrd]; exact hlat⟩⟩))
  ·unfold spec_ChooseVersion.f
   refine Ev.bind hgood ?_
   simp only [if_true, hql, hrd, Int.natCast_nonneg]
   refine Ev.bind hlat ?_
   simp only [if_neg h2, if_neg h4]; exact Ev.now _
  ·unfold impl_Store_choose.f
   simp only [hql, hrd, hwl, Int.natCast_nonneg, if_true, if_neg h2]
   apply Ev.succ
   simp only [impl_Store_choose.j0, hL0, if_false, if_neg h4]
   exact jF _ (by omega)
def lastC (c : List S52) : Int := (rd_T52 c ((c.length - 1 : Nat) : Int)).f2
theorem latest_impl (l : List (List S52)) (q : Nat) (hq : q < l.length) (hl : l[q].length ≤ 1048576) (hv : VC l[q]) : ∃ r1 r2 r4 r5, impl_Store_latest.f l (q : Int) = some (r1, r2, lastC l[q], r4, r5) := by
 have hrd : rd_L3 l (q : Int) = l[q] := by simp [rd_L3, hq]
 have hp := hv.2.2.1
 have hw : wrap64 ((l[q].length : Int) - 1) = ((l[q].length - 1 : Nat) : Int) := wrap_down hp (by omega)
 have h1 : ((l[q].length - 1 : Nat) : Int) < (l[q].length : Int) := by omega
 have h2 : (q : Int) < (l.length : Int) := by omega
 unfold impl_Store_latest.f
 simp only [hrd, hw, h1, h2, Int.natCast_nonneg, if_true]
 exact ⟨_, _, _, _, rfl⟩
theorem code_both (l : List (List S52)) (a0 a1 a2 a3 a4 a5 a6 : Int) (rs : List S116) (ws : List S103) (hw : ws.length ≤ 1048576) (hW : ∀ e ∈ l, VC e ∧ e.length ≤ 50) (h6 : l.length = 6) (hk : ∀ j : Nat, j < ws.length → 0 ≤ (rd_T103 ws (j : Int)).f0 ∧ (rd_T103 ws (j : Int)).f0 ≤ 5) : ∃ r q, Ev (fun k => spec_CommitCode.l0 k ((0 : Nat) : Int) l a0 a1 a2 a3 a4 a5 a6 rs ws) r ∧ Ev (fun k => impl_Write_125.l0 k ws (ws.length : Int) ((0 : Nat) : Int) l a0 a1 a2 a3 a4 a5 a6 rs ws) q ∧ ((q < 0 ∧ r = 0) ∨ (0 ≤ q ∧ r = (if a1 = 2 then 2 else if a1 = 4 then 3 else 0))) := by
 have h0 : ∀ i : Nat, ¬ (a1 = 2 ∨ a1 = 4) → Ev (fun k => spec_CommitCode.l0 k ((ws.length : Nat) : Int) l a0 a1 a2 a3 a4 a5 a6 rs ws) 0 := fun _ _ => Ev.succ (by simp only [spec_CommitCode.l0, Int.lt_irrefl, if_false]; exact Ev.now _)
 have hkey : ∀ i (hi : i < ws.length), ∃ (q : Nat) (hq : q < l.length), (rd_T103 ws (i : Int)).f0 = (q : Int) ∧ VC l[q] ∧ l[q].length ≤ 50 := by
  intro i hi
  obtain ⟨g0, g5⟩ := hk i hi
  obtain ⟨q, hq⟩ := Int.eq_ofNat_of_zero_le g0
  have hql : q < l.length := by omega
  exact ⟨q, hql, hq, hW _ (List.getElem_mem hql)⟩
 -- a later write that is found, or none: the reference's code is the same where no scheme refuses
 have free : ¬ (a1 = 2 ∨ a1 = 4) → ∀ d i : Nat, i + d = ws.length → Ev (fun k => spec_CommitCode.l0 k (i : Int) l a0 a1 a2 a3 a4 a5 a6 rs ws) 0 := by
  intro hn d
  have n2 : ¬ a1 = 2 := fun h => hn (.inl h)
  have n4 : ¬ a1 = 4 := fun h => hn (.inr h)
  induction d with
  | zero =>
   intro i hi
   obtain rfl : i = ws.length := by omega
   exact h0 0 hn
  | succ d ih =>
   intro i hi
   have hil : i < ws.length := by omega
   have h1 : (i : Int) < (ws.length : Int) := by omega
   obtain ⟨q, hq, hf, hv, h50⟩ := hkey i hil
   have hrd : rd_L3 l (q : Int) = l[q] := by simp [rd_L3, hq]
   have h2 : (q : Int) < (l.length : Int) := by omega
   apply Ev.succ
   simp only [spec_CommitCode.l0, h1, hf, h2, hrd, Int.natCast_nonneg, if_true]
   refine Ev.bind (latest_spec l[q] (by omega) hv) ?_
   simp only [if_neg n2, if_neg n4, wrap_up hil (by omega), ite_self]
   exact ih (i + 1) (by omega)
 refine ev_two (σ := Unit) (τ := Unit) (fun _ i k => spec_CommitCode.l0 k (i : Int) l a0 a1 a2 a3 a4 a5 a6 rs ws) (fun _ i k => impl_Write_125.l0 k ws (ws.length : Int) (i : Int) l a0 a1 a2 a3 a4 a5 a6 rs ws) ws.length (fun _ _ _ => True) (fun r q => (q < 0 ∧ r = 0) ∨ (0 ≤ q ∧ r = (if a1 = 2 then 2 else if a1 = 4 then 3 else 0))) ?_ ?_ () () 0 (Nat.zero_le _) trivial
 ·intro _ _ i hi _ ih
  have h1 : (i : Int) < (ws.length : Int) := by omega
  have e0 := wrap_up hi (by omega)
  obtain ⟨q, hq, hf, hv, h50⟩ := hkey i hi
  have hrd : rd_L3 l (q : Int) = l[q] := by simp [rd_L3, hq]
  have h2 : (q : Int) < (l.length : Int) := by omega
  obtain ⟨r1, r2, r4, r5, el⟩ := latest_impl l q hq (by omega) hv
  have hc : impl_Store_commitCode_1.f (rd_T103 ws (i : Int)).f0 (rd_T103 ws (i : Int)).f1 l a0 a1 a2 a3 a4 a5 a6 rs ws = some (decide (lastC l[q] > a3)) := by
   unfold impl_Store_commitCode_1.f
   rw [hf, el]; rfl
  have els := latest_spec l[q] (by omega) hv
  by_cases g : lastC l[q] > a3
  ·have g' : ¬ (rd_T52 l[q] ((l[q].length - 1 : Nat) : Int)).f2 ≤ a3 := by unfold lastC at g; omega
   have hq0 : Ev (fun k => impl_Write_125.l0 k ws (ws.length : Int) (i : Int) l a0 a1 a2 a3 a4 a5 a6 rs ws) (i : Int) := by
    apply Ev.succ
    simp only [impl_Write_125.l0, h1, hc, decide_eq_true g, Int.natCast_nonneg, if_true, Option.bind_some]; exact Ev.now _
   by_cases n2 : a1 = 2
   ·refine ⟨2, (i : Int), Ev.succ ?_, hq0, .inr ⟨Int.natCast_nonneg i, by rw [if_pos n2]⟩⟩
    simp only [spec_CommitCode.l0, h1, hf, h2, hrd, Int.natCast_nonneg, if_true]
    refine Ev.bind els ?_
    simp only [if_neg g', if_pos n2]; exact Ev.now _
   by_cases n4 : a1 = 4
   ·refine ⟨3, (i : Int), Ev.succ ?_, hq0, .inr ⟨Int.natCast_nonneg i, by rw [if_neg n2, if_pos n4]⟩⟩
    simp only [spec_CommitCode.l0, h1, hf, h2, hrd, Int.natCast_nonneg, if_true]
    refine Ev.bind els ?_
    simp only [if_neg g', if_neg n2, if_pos n4]; exact Ev.now _
   ·exact ⟨0, (i : Int), free (fun h => h.elim n2 n4) (ws.length - i) i (by omega), hq0, .inr ⟨Int.natCast_nonneg i, by rw [if_neg n2, if_neg n4]⟩⟩
  ·have g' : (rd_T52 l[q] ((l[q].length - 1 : Nat) : Int)).f2 ≤ a3 := by unfold lastC at g; omega
   obtain ⟨r, p, es, ei, hR⟩ := ih () () trivial
   refine ⟨r, p, Ev.succ ?_, Ev.succ ?_, hR⟩
   ·simp only [spec_CommitCode.l0, h1, hf, h2, hrd, e0, Int.natCast_nonneg, if_true]
    refine Ev.bind els ?_
    simp only [if_pos g']; exact es
   ·simp only [impl_Write_125.l0, h1, hc, decide_eq_false g, e0, Int.natCast_nonneg, if_true, if_false, Option.bind_some, Bool.false_eq_true]; exact ei
 ·intro _ _ _
  refine ⟨0, -1, Ev.succ ?_, Ev.succ ?_, .inl ⟨by decide, rfl⟩⟩
  ·simp only [spec_CommitCode.l0, Int.lt_irrefl, if_false]; exact Ev.now _
  ·simp only [impl_Write_125.l0, Int.lt_irrefl, if_false]; exact Ev.now _
theorem both_CommitCode (l : List (List S52)) (a0 a1 a2 a3 a4 a5 a6 : Int) (rs : List S116) (ws : List S103) (hl : l.length ≤ 1048576 ∧ ∀ e ∈ l, e.length ≤ 1048576) (hr : rs.length ≤ 1048576) (hw : ws.length ≤ 1048576) : ∃ r, Ev (fun k => spec_CommitCode.f k l a0 a1 a2 a3 a4 a5 a6 rs ws) r ∧ Ev (fun k => impl_CommitCode.f k l a0 a1 a2 a3 a4 a5 a6 rs ws) r := by
 obtain ⟨v, s1, i1, hv⟩ := store_both l hl.1 hl.2
 obtain ⟨b, s2, i2, hb⟩ := both_IsValidTransaction3 a0 a1 a2 a3 a4 a5 a6 rs ws hr hw
 have bad : Ev (fun k => spec_l12Good.f k l a0 a1 a2 a3 a4 a5 a6 rs ws 0) false → Ev (fun k => spec_CommitCode.f k l a0 a1 a2 a3 a4 a5 a6 rs ws) 6 := by
  intro h
  unfold spec_CommitCode.f
  refine Ev.bind h ?_
  simp only [Bool.false_eq_true, if_false]; exact Ev.now _
 cases v
 ·refine ⟨6, bad ?_, ?_⟩
  ·unfold spec_l12Good.f
   exact Ev.bind s1 (by simp only [Bool.false_eq_true, if_false]; exact Ev.now _)
  ·unfold impl_CommitCode.f
   exact Ev.bind i1 (by simp only [Bool.false_eq_true, if_false]; exact Ev.now _)
 by_cases hst : a2 = 1
 rotate_left 1
 ·refine ⟨6, bad ?_, ?_⟩
  ·unfold spec_l12Good.f
   refine Ev.bind s1 ?_
   simp only [if_true]
   refine Ev.bind s2 ?_
   cases b
   ·simp only [Bool.false_eq_true, if_false]; exact Ev.now _
   ·simp only [hst, if_true, if_false]; exact Ev.now _
  ·unfold impl_CommitCode.f impl_Transaction_isActive.f
   refine Ev.bind i1 ?_
   simp only [hst, if_true, if_false, Option.bind_some, Bool.false_eq_true]; exact Ev.now _
 cases b
 ·refine ⟨6, bad ?_, ?_⟩
  ·unfold spec_l12Good.f
   refine Ev.bind s1 ?_
   simp only [if_true]
   exact Ev.bind s2 (by simp only [Bool.false_eq_true, if_false]; exact Ev.now _)
  ·unfold impl_CommitCode.f impl_Transaction_isActive.f
   refine Ev.bind i1 ?_
   simp only [hst, if_true]
   subst hst
   exact Ev.bind (a := false) (Ev.bind i2 (Ev.now _)) (by simp only [Bool.false_eq_true, if_false]; exact Ev.now _)
 have hact : Ev (fun k => impl_Transaction_isActive.f k a0 a1 a2 a3 a4 a5 a6 rs ws) true := by
  unfold impl_Transaction_isActive.f
  simp only [hst, if_true]
  subst hst
  exact Ev.bind i2 (Ev.now _)
 obtain ⟨hW, h6⟩ := hv.1 rfl
 have hgood : Ev (fun k => spec_l12Good.f k l a0 a1 a2 a3 a4 a5 a6 rs ws 0) true := by
  unfold spec_l12Good.f
  refine Ev.bind s1 ?_
  simp only [if_true]
  refine Ev.bind s2 ?_
  simp only [hst, if_true, l1In_eq, Option.bind_some]; exact Ev.now _
 obtain ⟨r, q, es, ei, hR⟩ := code_both l a0 a1 a2 a3 a4 a5 a6 rs ws hw hW h6 (hb rfl).2
 have hcf : Ev (fun k => impl_Write_95.f k ws l a0 a1 a2 a3 a4 a5 a6 rs ws) (decide (q ≥ 0)) := by
  unfold impl_Write_95.f impl_Write_125.f
  exact Ev.bind ei (Ev.now _)
 refine ⟨r, ?_, ?_⟩
 ·unfold spec_CommitCode.f
  refine Ev.bind hgood ?_
  simp only [if_true]; exact es
 ·unfold impl_CommitCode.f
  refine Ev.bind i1 ?_
  simp only [if_true]
  refine Ev.bind hact ?_
  simp only [if_true]
  refine Ev.bind (a := r) ?_ (Ev.now _)
  unfold impl_Store_commitCode.f
  refine Ev.bind hcf ?_
  rcases hR with ⟨hq, rfl⟩ | ⟨hq, rfl⟩
  ·simp only [decide_eq_false (show ¬ q ≥ 0 by omega), Bool.false_eq_true, if_false]; exact Ev.now _
  ·simp only [decide_eq_true hq, if_true]
   by_cases n2 : a1 = 2
   ·simp only [if_pos n2]; exact Ev.now _
   ·by_cases n4 : a1 = 4
    ·simp only [if_neg n2, if_pos n4]; exact Ev.now _
    ·simp only [if_neg n2, if_neg n4]; exact Ev.now _
theorem both_AreLocks (l : List S76) (hl : l.length ≤ 1048576) : ∃ r, Ev (fun k => spec_AreLocks.f k l) r ∧ Ev (fun k => impl_AreLocks.f k l) r ∧ True := by
 refine ev_both (σ := Unit) (τ := Unit) (fun _ i k => spec_AreLocks.l0 k l (i : Int)) (fun _ i k => impl_AreLocks.l0 k l l (l.length : Int) (i : Int)) l.length (fun _ _ _ => True) (fun _ => True) ?_ ?_ () () 0 (Nat.zero_le _) trivial
 ·intro _ _ i hi _ ih
  have h1 : (i : Int) < (l.length : Int) := by omega
  obtain ⟨r, hs, ht, _⟩ := ih () () trivial
  have e0 := wrap_up hi (by omega)
  by_cases c0 : 0 ≤ (rd_T76 l i).f0 <;> by_cases c1 : (rd_T76 l i).f0 ≤ 5 <;> by_cases c2 : 1 ≤ (rd_T76 l i).f1 <;> by_cases c3 : (rd_T76 l i).f1 ≤ 9
  all_goals try (refine ⟨false, Ev.succ ?_, Ev.succ ?_, trivial⟩ <;> (simp [spec_AreLocks.l0, impl_AreLocks.l0, spec_l1In.f, impl_isKey.f, impl_isID.f, impl_in.f, h1, c0, c1, c2, c3]; first | done | exact Ev.now _))
  by_cases c5 : 0 < i
  ·have e1 : wrap64 ((i : Int) - 1) = ((i - 1 : Nat) : Int) := wrap_down c5 (by omega)
   have h2 : ((i - 1 : Nat) : Int) < (l.length : Int) := by omega
   have h3 : (i : Int) > 0 := by omega
   by_cases c6 : (rd_T76 l ((i - 1 : Nat) : Int)).f0 ≥ (rd_T76 l i).f0
   ·refine ⟨false, Ev.succ ?_, Ev.succ ?_, trivial⟩ <;> (simp only [spec_AreLocks.l0, impl_AreLocks.l0, spec_l1In.f, impl_isKey.f, impl_isID.f, impl_in.f, h1, h2, h3, c0, c1, c2, c3, c6, e1, Int.natCast_nonneg, ge_iff_le, decide_true, if_true, if_false, Option.bind_some]; exact Ev.now _)
   ·refine ⟨r, Ev.succ ?_, Ev.succ ?_, trivial⟩ <;> (simp only [spec_AreLocks.l0, impl_AreLocks.l0, spec_l1In.f, impl_isKey.f, impl_isID.f, impl_in.f, h1, h2, h3, c0, c1, c2, c3, c6, e1, e0, Int.natCast_nonneg, ge_iff_le, decide_true, if_true, if_false, Option.bind_some]; assumption)
  ·have h3 : ¬ ((i : Int) > 0) := by omega
   refine ⟨r, Ev.succ ?_, Ev.succ ?_, trivial⟩ <;> (simp only [spec_AreLocks.l0, impl_AreLocks.l0, spec_l1In.f, impl_isKey.f, impl_isID.f, impl_in.f, h1, h3, c0, c1, c2, c3, e0, Int.natCast_nonneg, ge_iff_le, decide_true, if_true, if_false, Option.bind_some]; assumption)
 ·intro _ _ _
  refine ⟨true, Ev.succ ?_, Ev.succ ?_, trivial⟩ <;> (simp [spec_AreLocks.l0, impl_AreLocks.l0]; exact Ev.now _)
theorem both_LockOwner (l : List S76) (a : Int) (hl : l.length ≤ 1048576) : ∃ r, Ev (fun k => spec_LockOwner.f k l a) r ∧ Ev (fun k => impl_LockOwner.f k l a) r ∧ True := by
 have h : ∃ r q, Ev (fun k => spec_LockOwner.l0 k l a ((0 : Nat) : Int)) r ∧ Ev (fun k => impl_Lock.l0 k l (l.length : Int) ((0 : Nat) : Int) a) q ∧ ((q < 0 ∧ r = 0) ∨ (0 ≤ q ∧ q < (l.length : Int) ∧ r = (rd_T76 l q).f1)) := by
  refine ev_two (σ := Unit) (τ := Unit) (fun _ i k => spec_LockOwner.l0 k l a (i : Int)) (fun _ i k => impl_Lock.l0 k l (l.length : Int) (i : Int) a) l.length (fun _ _ _ => True) (fun r q => ((q < 0 ∧ r = 0) ∨ (0 ≤ q ∧ q < (l.length : Int) ∧ r = (rd_T76 l q).f1))) ?_ ?_ () () 0 (Nat.zero_le _) trivial
  ·intro _ _ i hi _ ih
   have h1 : (i : Int) < (l.length : Int) := by omega
   have e0 := wrap_up hi (by omega)
   by_cases c : (rd_T76 l i).f0 = a
   ·refine ⟨(rd_T76 l i).f1, (i : Int), Ev.succ ?_, Ev.succ ?_, .inr ⟨by omega, h1, rfl⟩⟩ <;> (simp only [spec_LockOwner.l0, impl_Lock.l0, impl_LockOwner_1.f, h1, c, beq_self_eq_true, Int.natCast_nonneg, if_true, Option.bind_some]; exact Ev.now _)
   ·obtain ⟨r, q, hs, ht, hR⟩ := ih () () trivial
    have cb : ((rd_T76 l i).f0 == a) = false := by simpa using c
    refine ⟨r, q, Ev.succ ?_, Ev.succ ?_, hR⟩ <;> (simp only [spec_LockOwner.l0, impl_Lock.l0, impl_LockOwner_1.f, h1, c, cb, e0, Int.natCast_nonneg, if_true, if_false, Option.bind_some, Bool.false_eq_true]; assumption)
  ·intro _ _ _
   refine ⟨0, -1, Ev.succ ?_, Ev.succ ?_, .inl ⟨by omega, rfl⟩⟩ <;> (simp only [spec_LockOwner.l0, impl_Lock.l0, Int.lt_irrefl, if_false]; exact Ev.now _)
 obtain ⟨r, q, h1, h2, hR⟩ := h
 refine ⟨r, h1, ?_, trivial⟩
 unfold impl_LockOwner.f impl_Lock.f
 refine Ev.bind h2 ?_
 rcases hR with ⟨hq, rfl⟩ | ⟨h0, hn, rfl⟩
 ·simp only [hq, if_true]; exact Ev.now _
 ·have : ¬ q < 0 := by omega
  simp only [this, h0, hn, if_false, if_true]; exact Ev.now _
theorem latest_implW (l : List (List S52)) (q : Nat) (hq : q < l.length) (c : List S52) (hc : c = l[q]) (hl : c.length ≤ 1048576) (hv : VC c) : impl_Store_latest.f l (q : Int) = some ((rd_T52 c ((c.length - 1 : Nat) : Int)).f0, (rd_T52 c ((c.length - 1 : Nat) : Int)).f1, (rd_T52 c ((c.length - 1 : Nat) : Int)).f2, (rd_T52 c ((c.length - 1 : Nat) : Int)).f3, (rd_T52 c ((c.length - 1 : Nat) : Int)).f4) := by
 have hrd : rd_L3 l (q : Int) = c := by rw [hc]; simp [rd_L3, hq]
 have hp := hv.2.2.1
 have hw : wrap64 ((c.length : Int) - 1) = ((c.length - 1 : Nat) : Int) := wrap_down hp (by omega)
 have h1 : ((c.length - 1 : Nat) : Int) < (c.length : Int) := by omega
 have h2 : (q : Int) < (l.length : Int) := by omega
 unfold impl_Store_latest.f
 simp only [hrd, hw, h1, h2, Int.natCast_nonneg, if_true]
theorem last_reader (c : List S52) (hv : VC c) : (rd_T52 c ((c.length - 1 : Nat) : Int)).f2 ≤ (rd_T52 c ((c.length - 1 : Nat) : Int)).f3 := by
 have h := hv.1 (c.length - 1) (by have := hv.2.2.1; omega)
 unfold vat vok at h
 simp only [Bool.and_eq_true, decide_eq_true_eq] at h
 exact h.2.2.1.1
def wc4 (y a1 a3 : Int) : Int := if a1 = 4 then (if y > a3 then 3 else 0) else 0
def wc2 (b : Bool) (x y a1 a3 : Int) : Int := if a1 = 2 then (if b = true then 2 else if x > a3 then 2 else 0) else wc4 y a1 a3
def wc1 (b : Bool) (x y a1 a3 : Int) : Int := if a1 = 1 then (if b = true then 1 else 0) else wc2 b x y a1 a3
theorem wi_j2 (p : Int × Int) (a0 a1 a2 a3 a4 a5 a6 : Int) (rs : List S116) (ws : List S103) : Ev (fun k => impl_Store_writeCode.j2 k p false a0 a1 a2 a3 a4 a5 a6 rs ws) (wc4 p.2 a1 a3) := by
 apply Ev.succ
 simp only [impl_Store_writeCode.j2, Bool.false_eq_true, if_false, wc4]
 by_cases n4 : a1 = 4
 ·simp only [if_pos n4]
  by_cases h : p.2 > a3
  ·simp only [if_pos h]; exact Ev.now _
  ·simp only [if_neg h]; exact Ev.now _
 ·simp only [if_neg n4]; exact Ev.now _
theorem wi_j2t (p : Int × Int) (a0 a1 a2 a3 a4 a5 a6 : Int) (rs : List S116) (ws : List S103) : Ev (fun k => impl_Store_writeCode.j2 k p true a0 a1 a2 a3 a4 a5 a6 rs ws) 2 := Ev.succ (by simp only [impl_Store_writeCode.j2, if_true]; exact Ev.now _)
theorem wi_j1 (p : Int × Int) (b : Bool) (a0 a1 a2 a3 a4 a5 a6 : Int) (rs : List S116) (ws : List S103) : Ev (fun k => impl_Store_writeCode.j1 k p b false a0 a1 a2 a3 a4 a5 a6 rs ws) (wc2 b p.1 p.2 a1 a3) := by
 apply Ev.succ
 simp only [impl_Store_writeCode.j1, Bool.false_eq_true, if_false]
 unfold wc2
 by_cases n2 : a1 = 2
 ·simp only [if_pos n2]
  cases b
  ·simp only [Bool.false_eq_true, if_false]
   by_cases h : p.1 > a3
   ·simp only [if_pos h, decide_eq_true h]; exact wi_j2t p a0 a1 a2 a3 a4 a5 a6 rs ws
   ·have e : (0 : Int) = wc4 p.2 a1 a3 := by unfold wc4; rw [if_neg (by omega)]
    simp only [if_neg h, decide_eq_false h]; rw [e]; exact wi_j2 p a0 a1 a2 a3 a4 a5 a6 rs ws
  ·simp only [if_true]; exact wi_j2t p a0 a1 a2 a3 a4 a5 a6 rs ws
 ·simp only [if_neg n2]; exact wi_j2 p a0 a1 a2 a3 a4 a5 a6 rs ws
theorem wi_j0 (p : Int × Int) (b : Bool) (a0 a1 a2 a3 a4 a5 a6 : Int) (rs : List S116) (ws : List S103) : Ev (fun k => impl_Store_writeCode.j0 k p b a0 a1 a2 a3 a4 a5 a6 rs ws) (wc1 b p.1 p.2 a1 a3) := by
 apply Ev.succ
 simp only [impl_Store_writeCode.j0]
 unfold wc1
 by_cases n1 : a1 = 1
 ·simp only [if_pos n1]
  cases b
  ·have e : (0 : Int) = wc2 false p.1 p.2 a1 a3 := by unfold wc2 wc4; rw [if_neg (by omega), if_neg (by omega)]
   simp only [Bool.false_eq_true, if_false]; rw [e]; exact wi_j1 p false a0 a1 a2 a3 a4 a5 a6 rs ws
  ·simp only [if_true]
   exact Ev.succ (by simp only [impl_Store_writeCode.j1, if_true]; exact Ev.now _)
 ·simp only [if_neg n1]; exact wi_j1 p b a0 a1 a2 a3 a4 a5 a6 rs ws
theorem ws_j3 (a0 a1 a2 a3 a4 a5 a6 : Int) (rs : List S116) (ws : List S103) (v0 v1 x y v4 : Int) (hxy : x ≤ y) : Ev (fun k => spec_WriteCode.j3 k false a0 a1 a2 a3 a4 a5 a6 rs ws v0 v1 x y v4) (wc4 y a1 a3) := by
 apply Ev.succ
 simp only [spec_WriteCode.j3, Bool.false_eq_true, if_false, wc4]
 by_cases n4 : a1 = 4
 ·simp only [if_pos n4]
  by_cases hx : x > a3
  ·simp only [if_pos hx, if_pos (show y > a3 by omega)]; exact Ev.now _
  ·by_cases h : y > a3
   ·simp only [if_neg hx, if_pos h]; exact Ev.now _
   ·simp only [if_neg hx, if_neg h]; exact Ev.now _
 ·simp only [if_neg n4]; exact Ev.now _
theorem ws_j3t (a0 a1 a2 a3 a4 a5 a6 : Int) (rs : List S116) (ws : List S103) (v0 v1 x y v4 : Int) : Ev (fun k => spec_WriteCode.j3 k true a0 a1 a2 a3 a4 a5 a6 rs ws v0 v1 x y v4) 2 := Ev.succ (by simp only [spec_WriteCode.j3, if_true]; exact Ev.now _)
theorem ws_j2 (b : Bool) (a0 a1 a2 a3 a4 a5 a6 : Int) (rs : List S116) (ws : List S103) (v0 v1 x y v4 : Int) (hxy : x ≤ y) : Ev (fun k => spec_WriteCode.j2 k b false a0 a1 a2 a3 a4 a5 a6 rs ws v0 v1 x y v4) (wc2 b x y a1 a3) := by
 apply Ev.succ
 simp only [spec_WriteCode.j2, Bool.false_eq_true, if_false]
 unfold wc2
 by_cases n2 : a1 = 2
 ·simp only [if_pos n2]
  cases b
  ·simp only [Bool.false_eq_true, if_false]
   by_cases h : x > a3
   ·simp only [if_pos h, decide_eq_true h]; exact ws_j3t a0 a1 a2 a3 a4 a5 a6 rs ws v0 v1 x y v4
   ·have e : (0 : Int) = wc4 y a1 a3 := by unfold wc4; rw [if_neg (by omega)]
    simp only [if_neg h, decide_eq_false h]; rw [e]; exact ws_j3 a0 a1 a2 a3 a4 a5 a6 rs ws v0 v1 x y v4 hxy
  ·simp only [if_true]; exact ws_j3t a0 a1 a2 a3 a4 a5 a6 rs ws v0 v1 x y v4
 ·simp only [if_neg n2]; exact ws_j3 a0 a1 a2 a3 a4 a5 a6 rs ws v0 v1 x y v4 hxy
theorem ws_j12 (b : Bool) (a0 a1 a2 a3 a4 a5 a6 : Int) (rs : List S116) (ws : List S103) (v0 v1 x y v4 : Int) (hxy : x ≤ y) : Ev (fun k => if a1 = 1 then spec_WriteCode.j2 k b b a0 a1 a2 a3 a4 a5 a6 rs ws v0 v1 x y v4 else spec_WriteCode.j2 k b false a0 a1 a2 a3 a4 a5 a6 rs ws v0 v1 x y v4) (wc1 b x y a1 a3) := by
 unfold wc1
 by_cases n1 : a1 = 1
 ·simp only [if_pos n1]
  cases b
  ·have e : (0 : Int) = wc2 false x y a1 a3 := by unfold wc2 wc4; rw [if_neg (by omega), if_neg (by omega)]
   simp only [Bool.false_eq_true, if_false]; rw [e]; exact ws_j2 false a0 a1 a2 a3 a4 a5 a6 rs ws v0 v1 x y v4 hxy
  ·simp only [if_true]
   exact Ev.succ (by simp only [spec_WriteCode.j2, if_true]; exact Ev.now _)
 ·simp only [if_neg n1]; exact ws_j2 b a0 a1 a2 a3 a4 a5 a6 rs ws v0 v1 x y v4 hxy
def WcF (a1 r : Int) : Prop := (r = 1 → a1 = 1) ∧ (a1 = 3 → r = 0 ∨ r = 6)
theorem wc_fact (b : Bool) (x y a1 a3 : Int) : WcF a1 (wc1 b x y a1 a3) := by
 refine ⟨fun h => ?_, fun h => ?_⟩
 ·by_cases h1 : a1 = 1
  ·exact h1
  ·unfold wc1 wc2 wc4 at h
   rw [if_neg h1] at h
   (repeat' split at h) <;> exact absurd h (by decide)
 ·unfold wc1 wc2 wc4
  rw [if_neg (by omega), if_neg (by omega), if_neg (by omega)]; exact Or.inl rfl
theorem both_WriteCode2 (l : List (List S52)) (lk : List S76) (a0 a1 a2 a3 a4 a5 a6 : Int) (rs : List S116) (ws : List S103) (key : Int) (hl : l.length ≤ 1048576 ∧ ∀ e ∈ l, e.length ≤ 1048576) (hlk : lk.length ≤ 1048576) (hr : rs.length ≤ 1048576) (hw : ws.length ≤ 1048576) : ∃ r, Ev (fun k => spec_WriteCode.f k l lk a0 a1 a2 a3 a4 a5 a6 rs ws key) r ∧ Ev (fun k => impl_WriteCode.f k l lk a0 a1 a2 a3 a4 a5 a6 rs ws key) r ∧ WcF a1 r := by
 obtain ⟨v, s1, i1, hv⟩ := store_both l hl.1 hl.2
 obtain ⟨b, s2, i2, _⟩ := both_IsValidTransaction3 a0 a1 a2 a3 a4 a5 a6 rs ws hr hw
 obtain ⟨g, s3, i3, _⟩ := both_AreLocks lk hlk
 obtain ⟨n, s4, i4, _⟩ := both_LockOwner lk key hlk
 have sT : Ev (fun k => spec_WriteCode.j0 k lk key true l a0 a1 a2 a3 a4 a5 a6 rs ws) 6 := Ev.succ (by simp only [spec_WriteCode.j0, if_true]; exact Ev.now _)
 have bad : Ev (fun k => spec_l12Good.f k l a0 a1 a2 a3 a4 a5 a6 rs ws key) false → Ev (fun k => spec_WriteCode.f k l lk a0 a1 a2 a3 a4 a5 a6 rs ws key) 6 := by
  intro h
  unfold spec_WriteCode.f
  refine Ev.bind h ?_
  simp only [Bool.false_eq_true, if_false]; exact sT
 cases v
 ·refine ⟨6, bad ?_, ?_, by unfold WcF; omega⟩
  ·unfold spec_l12Good.f
   exact Ev.bind s1 (by simp only [Bool.false_eq_true, if_false]; exact Ev.now _)
  ·unfold impl_WriteCode.f
   exact Ev.bind i1 (by simp only [Bool.false_eq_true, if_false]; exact Ev.now _)
 by_cases hst : a2 = 1
 rotate_left 1
 ·refine ⟨6, bad ?_, ?_, by unfold WcF; omega⟩
  ·unfold spec_l12Good.f
   refine Ev.bind s1 ?_
   simp only [if_true]
   refine Ev.bind s2 ?_
   cases b
   ·simp only [Bool.false_eq_true, if_false]; exact Ev.now _
   ·simp only [hst, if_true, if_false]; exact Ev.now _
  ·unfold impl_WriteCode.f impl_Transaction_isActive.f
   refine Ev.bind i1 ?_
   simp only [hst, if_true, if_false, Option.bind_some, Bool.false_eq_true]; exact Ev.now _
 cases b
 ·refine ⟨6, bad ?_, ?_, by unfold WcF; omega⟩
  ·unfold spec_l12Good.f
   refine Ev.bind s1 ?_
   simp only [if_true]
   exact Ev.bind s2 (by simp only [Bool.false_eq_true, if_false]; exact Ev.now _)
  ·unfold impl_WriteCode.f impl_Transaction_isActive.f
   refine Ev.bind i1 ?_
   simp only [hst, if_true]
   subst hst
   exact Ev.bind (a := false) (Ev.bind i2 (Ev.now _)) (by simp only [Bool.false_eq_true, if_false]; exact Ev.now _)
 have hact : Ev (fun k => impl_Transaction_isActive.f k a0 a1 a2 a3 a4 a5 a6 rs ws) true := by
  unfold impl_Transaction_isActive.f
  simp only [hst, if_true]
  subst hst
  exact Ev.bind i2 (Ev.now _)
 by_cases hk : 0 ≤ key ∧ key ≤ 5
 rotate_left 1
 ·have g0 : (decide (0 ≤ key) && decide (key ≤ 5)) = false := by
   rw [Bool.and_eq_false_iff, decide_eq_false_iff_not, decide_eq_false_iff_not]; omega
  refine ⟨6, bad ?_, ?_, by unfold WcF; omega⟩
  ·unfold spec_l12Good.f
   refine Ev.bind s1 ?_
   simp only [if_true]
   refine Ev.bind s2 ?_
   simp only [hst, if_true, l1In_eq, g0, Option.bind_some]; exact Ev.now _
  ·unfold impl_WriteCode.f
   refine Ev.bind i1 ?_
   simp only [if_true]
   refine Ev.bind hact ?_
   simp only [if_true, impl_isKey.f, in_eq, g0, Option.bind_some, Bool.false_eq_true, if_false]; exact Ev.now _
 obtain ⟨hk0, hk5⟩ := hk
 have g0 : (decide (0 ≤ key) && decide (key ≤ 5)) = true := by simp [hk0, hk5]
 obtain ⟨hW, h6⟩ := hv.1 rfl
 obtain ⟨q, rfl⟩ := Int.eq_ofNat_of_zero_le hk0
 have hq : q < l.length := by omega
 have hql : (q : Int) < (l.length : Int) := by omega
 obtain ⟨c, hc⟩ : ∃ c, c = l[q] := ⟨_, rfl⟩
 have hrd : rd_L3 l (q : Int) = c := by rw [hc]; simp [rd_L3, hq]
 obtain ⟨hVC, h50⟩ := hW _ (List.getElem_mem hq)
 rw [← hc] at hVC h50
 have hgood : Ev (fun k => spec_l12Good.f k l a0 a1 a2 a3 a4 a5 a6 rs ws (q : Int)) true := by
  unfold spec_l12Good.f
  refine Ev.bind s1 ?_
  simp only [if_true]
  refine Ev.bind s2 ?_
  simp only [hst, if_true, l1In_eq, g0, Option.bind_some]; exact Ev.now _
 cases g
 ·refine ⟨6, ?_, ?_, by unfold WcF; omega⟩
  ·unfold spec_WriteCode.f
   refine Ev.bind hgood ?_
   simp only [if_true]
   refine Ev.bind s3 ?_
   exact sT
  ·unfold impl_WriteCode.f
   refine Ev.bind i1 ?_
   simp only [if_true]
   refine Ev.bind hact ?_
   simp only [if_true, impl_isKey.f, in_eq, g0, Option.bind_some]
   refine Ev.bind i3 ?_
   simp only [Bool.false_eq_true, if_false]; exact Ev.now _
 have hlat := latest_spec c (by omega) hVC
 have hli := latest_implW l q hq c hc (by omega) hVC
 have hxy := last_reader c hVC
 revert hlat hli hxy
 generalize (rd_T52 c ((c.length - 1 : Nat) : Int)).f0 = v0
 generalize (rd_T52 c ((c.length - 1 : Nat) : Int)).f1 = v1
 generalize (rd_T52 c ((c.length - 1 : Nat) : Int)).f2 = x
 generalize (rd_T52 c ((c.length - 1 : Nat) : Int)).f3 = y
 generalize (rd_T52 c ((c.length - 1 : Nat) : Int)).f4 = v4
 intro hlat hli hxy
 have key1 : ∀ f : Bool, Ev (fun k => spec_WriteCode.j1 k (q : Int) f l a0 a1 a2 a3 a4 a5 a6 rs ws) (wc1 f x y a1 a3) := by
  intro f
  apply Ev.succ
  simp only [spec_WriteCode.j1, hql, hrd, Int.natCast_nonneg, if_true]
  refine Ev.bind hlat ?_
  exact ws_j12 f a0 a1 a2 a3 a4 a5 a6 rs ws v0 v1 x y v4 hxy
 refine ⟨wc1 (if n = 0 then false else (n != a0)) x y a1 a3, ?_, ?_, wc_fact _ _ _ _ _⟩
 ·unfold spec_WriteCode.f
  refine Ev.bind hgood ?_
  simp only [if_true]
  refine Ev.bind s3 ?_
  apply Ev.succ
  simp only [spec_WriteCode.j0, Bool.not_true, Bool.false_eq_true, if_false]
  refine Ev.bind s4 ?_
  by_cases hn : n = 0
  ·simp only [if_pos hn]; exact key1 false
  ·simp only [if_neg hn]; exact key1 _
 ·unfold impl_WriteCode.f
  refine Ev.bind i1 ?_
  simp only [if_true]
  refine Ev.bind hact ?_
  simp only [if_true, impl_isKey.f, in_eq, g0, Option.bind_some]
  refine Ev.bind i3 ?_
  simp only [if_true]
  refine Ev.bind (a := wc1 (if n = 0 then false else (n != a0)) x y a1 a3) ?_ (Ev.now _)
  unfold impl_Store_writeCode.f
  refine Ev.bind i4 ?_
  simp only [hli, Option.bind_some]
  by_cases hn : n = 0
  ·simp only [if_pos hn]; exact wi_j0 (x, y) false a0 a1 a2 a3 a4 a5 a6 rs ws
  ·simp only [if_neg hn]; exact wi_j0 (x, y) _ a0 a1 a2 a3 a4 a5 a6 rs ws
theorem locks_ok (b : List Int) (i h : Int) (hb : b.length ≤ 1048576) (hi : 0 ≤ i ∧ i ≤ (b.length : Int)) : ∃ r, Ev (fun k => spec_l10Locks.f k b i h) r ∧ r.1.length ≤ 8 ∧ (0 ≤ r.2.1 ∧ r.2.1 ≤ (b.length : Int)) := by
 have key : ∀ (m : Nat), m ≤ 6 → ∀ (xs : List S76) (i h : Int), (0 ≤ i ∧ i ≤ (b.length : Int)) → xs.length + m ≤ 6 → ∃ r, Ev (fun k => spec_l10Locks.l0 k xs ((6 - m : Nat) : Int) b i h) r ∧ r.1.length ≤ 8 ∧ (0 ≤ r.2.1 ∧ r.2.1 ≤ (b.length : Int)) := by
  intro m
  induction m with
  | zero =>
   intro _ xs i h hi hx
   apply ex_succ
   simp only [spec_l10Locks.l0]
   refine ex_ite (fun c => absurd c (by decide)) (fun _ => ?_)
   obtain ⟨z, i1, h1, e1, hi1⟩ := once_ok b i h 14 hb hi (by decide) (by decide)
   refine ex_bind e1 ?_
   refine ex_ite (fun _ => ?_) (fun _ => ex_now ⟨by dsimp only; omega, hi1⟩)
   obtain ⟨x, i2, h2, e2, _, hi2⟩ := below_ok b i1 h1 7 hb hi1 (by decide) (by decide)
   refine ex_bind e2 ?_
   obtain ⟨y, i3, h3, e3, hi3⟩ := pick_ok b i2 h2 [0, 9, 10] hb hi2 (by decide) (by decide)
   refine ex_bind e3 ?_
   exact ex_ite (fun _ => ex_now ⟨by simp; omega, hi3⟩) (fun c => absurd (by omega) c)
  | succ m ih =>
   intro hm xs i h hi hx
   have hw : wrap64 (((6 - (m + 1) : Nat) : Int) + 1) = ((6 - m : Nat) : Int) := by unfold wrap64; omega
   apply ex_succ
   simp only [spec_l10Locks.l0]
   rw [hw]
   refine ex_ite (fun _ => ?_) (fun c => absurd (by omega) c)
   obtain ⟨z, i1, h1, e1, hi1⟩ := once_ok b i h 3 hb hi (by decide) (by decide)
   refine ex_bind e1 ?_
   refine ex_ite (fun _ => ?_) (fun _ => ih (by omega) xs i1 h1 hi1 (by omega))
   obtain ⟨x, i2, h2, e2, _, hi2⟩ := below_ok b i1 h1 4 hb hi1 (by decide) (by decide)
   refine ex_bind e2 ?_
   exact ex_ite (fun _ => ih (by omega) _ i2 h2 hi2 (by simp; omega)) (fun c => absurd (by omega) c)
 exact key 6 (Nat.le_refl _) [] i h hi (by simp)
theorem before_ok (a b c d : Int) : ∃ t, spec_l5Before.f a b c d = some t := by
 unfold spec_l5Before.f
 by_cases h : a < c
 ·exact ⟨_, if_pos h⟩
 ·rw [if_neg h]
  by_cases g : a = c
  ·exact ⟨_, if_pos g⟩
  ·exact ⟨_, if_neg g⟩
theorem putread_ok (l : List S116) (a b : Int) (hl : l.length ≤ 1000) : ∃ r, Ev (fun k => spec_l5PutRead.f k l a b) r ∧ r.length ≤ l.length + 1 := by
 refine ev_to (σ := Unit) (fun _ i k => spec_l5PutRead.l0 k l (i : Int) a b) l.length (fun _ _ => True) (fun r => r.length ≤ l.length + 1) ?_ ?_ () 0 (Nat.zero_le _) trivial
 ·intro _ i hi _ ih
  have h1 : (i : Int) < (l.length : Int) := by omega
  obtain ⟨t, e⟩ := before_ok (rd_T116 l (i : Int)).f0 (rd_T116 l (i : Int)).f1 a b
  apply ex_succ
  simp only [spec_l5PutRead.l0]
  rw [wrap_up hi (by omega)]
  refine ex_ite (fun _ => ?_) (fun c => absurd h1 c)
  refine ex_ite (fun _ => ?_) (fun c => absurd (Int.natCast_nonneg _) c)
  refine ex_bind e ?_
  refine ex_ite (fun _ => ih () trivial) (fun _ => ?_)
  refine ex_ite (fun _ => ex_bind rfl (ex_ite (fun _ => ex_now ?_) (fun c => absurd ?_ c))) (fun _ => ?_)
  ·simp only [List.nil_append]; omega
  ·simp only [List.length_nil]; omega
  refine ex_bind rfl (ex_ite (fun _ => ex_bind rfl (ex_ite (fun _ => ex_bind rfl (ex_bind rfl (ex_ite (fun _ => ex_bind rfl (ex_bind rfl (ex_ite (fun _ => ex_now ?_) (fun c => absurd ?_ c)))) (fun c => absurd ?_ c)))) (fun c => absurd ?_ c))) (fun c => absurd ?_ c))
  all_goals try simp only [List.nil_append, List.length_append, List.length_take, List.length_drop, List.length_cons, List.length_nil]
  all_goals omega
 ·intro _ _
  apply ex_succ
  simp only [spec_l5PutRead.l0]
  refine ex_ite (fun c => absurd c (Int.lt_irrefl _)) (fun _ => ?_)
  refine ex_bind rfl (ex_ite (fun _ => ex_ite (fun _ => ex_bind rfl (ex_ite (fun _ => ex_bind rfl (ex_bind rfl (ex_ite (fun _ => ex_bind rfl (ex_bind rfl (ex_ite (fun _ => ex_now ?_) (fun c => absurd ?_ c)))) (fun c => absurd ?_ c)))) (fun c => absurd ?_ c))) (fun c => absurd ?_ c)) (fun c => absurd ?_ c))
  all_goals try simp only [List.nil_append, List.length_append, List.length_take, List.length_drop, List.length_cons, List.length_nil]
  all_goals omega
theorem putwrite_ok (l : List S103) (a b : Int) (hl : l.length ≤ 1000) : ∃ r, Ev (fun k => spec_l5PutWrite.f k l a b) r ∧ r.length ≤ l.length + 1 := by
 refine ev_to (σ := Unit) (fun _ i k => spec_l5PutWrite.l0 k l (i : Int) a b) l.length (fun _ _ => True) (fun r => r.length ≤ l.length + 1) ?_ ?_ () 0 (Nat.zero_le _) trivial
 ·intro _ i hi _ ih
  have h1 : (i : Int) < (l.length : Int) := by omega
  apply ex_succ
  simp only [spec_l5PutWrite.l0]
  rw [wrap_up hi (by omega)]
  refine ex_ite (fun _ => ?_) (fun c => absurd h1 c)
  refine ex_ite (fun _ => ?_) (fun c => absurd (Int.natCast_nonneg _) c)
  refine ex_ite (fun _ => ih () trivial) (fun _ => ?_)
  refine ex_bind rfl (ex_ite (fun _ => ex_bind rfl (ex_ite (fun _ => ex_bind rfl (ex_bind rfl (ex_ite (fun _ => ex_bind rfl ?_) (fun c => absurd ?_ c)))) (fun c => absurd ?_ c))) (fun c => absurd ?_ c))
  ·refine ex_ite (fun _ => ex_ite (fun _ => ex_ite (fun _ => ex_bind rfl (ex_ite (fun _ => ex_now ?_) (fun c => absurd ?_ c))) (fun c => absurd ?_ c)) (fun c => absurd ?_ c)) (fun _ => ex_bind rfl (ex_ite (fun _ => ex_now ?_) (fun c => absurd ?_ c)))
   all_goals try simp only [List.nil_append, List.length_append, List.length_take, List.length_drop, List.length_cons, List.length_nil]
   all_goals omega
  all_goals try simp only [List.nil_append, List.length_append, List.length_take, List.length_drop, List.length_cons, List.length_nil]
  all_goals omega
 ·intro _ _
  apply ex_succ
  simp only [spec_l5PutWrite.l0]
  refine ex_ite (fun c => absurd c (Int.lt_irrefl _)) (fun _ => ?_)
  refine ex_bind rfl (ex_ite (fun _ => ex_ite (fun _ => ex_bind rfl (ex_ite (fun _ => ex_bind rfl (ex_bind rfl (ex_ite (fun _ => ex_bind rfl (ex_bind rfl (ex_ite (fun _ => ex_now ?_) (fun c => absurd ?_ c)))) (fun c => absurd ?_ c)))) (fun c => absurd ?_ c))) (fun c => absurd ?_ c)) (fun c => absurd ?_ c))
  all_goals try simp only [List.nil_append, List.length_append, List.length_take, List.length_drop, List.length_cons, List.length_nil]
  all_goals omega
def TxS (n : Nat) (b : List Int) (r : Int × Int × Int × Int × Int × Int × Int × (List S116) × (List S103) × Int × Int) : Prop := r.2.2.2.2.2.2.2.1.length ≤ n ∧ r.2.2.2.2.2.2.2.2.1.length ≤ n ∧ (0 ≤ r.2.2.2.2.2.2.2.2.2.1 ∧ r.2.2.2.2.2.2.2.2.2.1 ≤ (b.length : Int))
theorem on_ok (b : List Int) (i h : Int) (s : List (List S52)) (hb : b.length ≤ 1048576) (hi : 0 ≤ i ∧ i ≤ (b.length : Int)) (hs : ∀ e ∈ s, e.length ≤ 6) : ∃ r, Ev (fun k => spec_l5On.f k b i h s) r ∧ TxS 5 b r := by
 have key1 : ∀ (m : Nat), m ≤ 3 → ∀ (a0 a1 a2 a3 a4 a5 a6 : Int) (rs : List S116) (ws : List S103) (i h : Int), (0 ≤ i ∧ i ≤ (b.length : Int)) → rs.length ≤ 5 → ws.length + m ≤ 5 → ∃ r, Ev (fun k => spec_l5On.l1 k (m : Int) b i h a0 a1 a2 a3 a4 a5 a6 rs ws) r ∧ TxS 5 b r := by
  intro m
  induction m with
  | zero =>
   intro _ a0 a1 a2 a3 a4 a5 a6 rs ws i h hi hr hw
   apply ex_succ
   simp only [spec_l5On.l1]
   exact ex_ite (fun c => absurd c (by decide)) (fun _ => ex_now ⟨hr, hw, hi⟩)
  | succ m ih =>
   intro hm a0 a1 a2 a3 a4 a5 a6 rs ws i h hi hr hw
   have hd : wrap64 (((m + 1 : Nat) : Int) - 1) = (m : Int) := by unfold wrap64; omega
   apply ex_succ
   simp only [spec_l5On.l1]
   rw [hd]
   refine ex_ite (fun _ => ?_) (fun c => absurd (by omega) c)
   obtain ⟨x, i1, h1, e1, _, hi1⟩ := below_ok b i h 6 hb hi (by decide) (by decide)
   refine ex_bind e1 ?_
   obtain ⟨y, i2, h2, e2, hi2⟩ := pick_ok b i1 h1 [(-1), 0, 7, 50, 99] hb hi1 (by decide) (by decide)
   refine ex_bind e2 ?_
   obtain ⟨w2, e3, hw2⟩ := putwrite_ok ws x y (by omega)
   exact ex_bindE e3 (ih (by omega) _ _ _ _ _ _ _ rs w2 i2 h2 hi2 hr (by omega))
 have key0 : ∀ (m : Nat), m ≤ 4 → ∀ (a0 a1 a2 a3 a4 a5 a6 : Int) (rs : List S116) (i h : Int), (0 ≤ i ∧ i ≤ (b.length : Int)) → rs.length + m ≤ 5 → ∃ r, Ev (fun k => spec_l5On.l0 k (m : Int) b i h s a0 a1 a2 a3 a4 a5 a6 rs) r ∧ TxS 5 b r := by
  intro m
  induction m with
  | zero =>
   intro _ a0 a1 a2 a3 a4 a5 a6 rs i h hi hr
   apply ex_succ
   simp only [spec_l5On.l0]
   refine ex_ite (fun c => absurd c (by decide)) (fun _ => ?_)
   obtain ⟨x, i1, h1, e1, hx, hi1⟩ := below_ok b i h 3 hb hi (by decide) (by decide)
   refine ex_bind e1 ?_
   obtain ⟨m, rfl⟩ := Int.eq_ofNat_of_zero_le hx.1
   exact key1 m (by omega) _ _ _ _ _ _ _ rs [] i1 h1 hi1 hr (by simp; omega)
  | succ m ih =>
   intro hm a0 a1 a2 a3 a4 a5 a6 rs i h hi hr
   have hd : wrap64 (((m + 1 : Nat) : Int) - 1) = (m : Int) := by unfold wrap64; omega
   have step : ∀ (x : Int) (t : Bool) (i h : Int), (0 ≤ i ∧ i ≤ (b.length : Int)) → (t = true → 0 ≤ x ∧ x < (s.length : Int) ∧ ((rd_L3 s x).length : Int) > 0) → ∃ r, Ev (fun k => spec_l5On.j1 k ((m + 1 : Nat) : Int) x t b i h s a0 a1 a2 a3 a4 a5 a6 rs) r ∧ TxS 5 b r := by
    intro x t i h hi ht
    apply ex_succ
    simp only [spec_l5On.j1]
    rw [hd]
    refine ex_ite (fun c => ?_) (fun _ => ih (by omega) _ _ _ _ _ _ _ rs i h hi (by omega))
    obtain ⟨x0, x1, x2⟩ := ht c
    refine ex_ite (fun _ => ?_) (fun c => absurd x0 c)
    refine ex_ite (fun _ => ?_) (fun c => absurd x1 c)
    have x3 : (rd_L3 s x).length ≤ 6 := by
     obtain ⟨q, rfl⟩ := Int.eq_ofNat_of_zero_le x0
     have hq : q < s.length := by omega
     have hrd : rd_L3 s (q : Int) = s[q] := by simp [rd_L3, hq]
     rw [hrd]; exact hs _ (List.getElem_mem hq)
    obtain ⟨y, i1, h1, e1, hy, hi1⟩ := below_ok b i h ((rd_L3 s x).length : Int) hb hi (by omega) (by omega)
    refine ex_bind e1 ?_
    refine ex_ite (fun _ => ?_) (fun c => absurd hy.1 c)
    refine ex_ite (fun _ => ?_) (fun c => absurd hy.2 c)
    obtain ⟨r2, e2, hr2⟩ := putread_ok rs x (rd_T52 (rd_L3 s x) y).f2 (by omega)
    exact ex_bindE e2 (ih (by omega) _ _ _ _ _ _ _ r2 i1 h1 hi1 (by omega))
   apply ex_succ
   simp only [spec_l5On.l0]
   refine ex_ite (fun _ => ?_) (fun c => absurd (by omega) c)
   obtain ⟨x, i1, h1, e1, hx, hi1⟩ := below_ok b i h 6 hb hi (by decide) (by decide)
   refine ex_bind e1 ?_
   refine ex_ite (fun c => ex_ite (fun _ => step x _ i1 h1 hi1 (fun t => ⟨hx.1, c, of_decide_eq_true t⟩)) (fun c => absurd hx.1 c)) (fun _ => step x false i1 h1 hi1 (fun t => absurd t (by decide)))
 unfold spec_l5On.f
 obtain ⟨x1, i1, h1, e1, _, hi1⟩ := below_ok b i h 6 hb hi (by decide) (by decide)
 refine ex_bind e1 ?_
 obtain ⟨x2, i2, h2, e2, _, hi2⟩ := below_ok b i1 h1 4 hb hi1 (by decide) (by decide)
 refine ex_bind e2 ?_
 obtain ⟨x3, i3, h3, e3, _, hi3⟩ := below_ok b i2 h2 8 hb hi2 (by decide) (by decide)
 refine ex_bind e3 ?_
 obtain ⟨x4, i4, h4, e4, hx4, hi4⟩ := below_ok b i3 h3 4 hb hi3 (by decide) (by decide)
 refine ex_bind e4 ?_
 obtain ⟨m, rfl⟩ := Int.eq_ofNat_of_zero_le hx4.1
 exact key0 m (by omega) _ _ _ _ _ _ _ [] i4 h4 hi4 (by simp; omega)
theorem anytx_ok (b : List Int) (i h : Int) (hb : b.length ≤ 1048576) (hi : 0 ≤ i ∧ i ≤ (b.length : Int)) : ∃ r, Ev (fun k => spec_l5Any.f k b i h) r ∧ TxS 6 b r := by
 unfold spec_l5Any.f
 obtain ⟨⟨s, i1, h1⟩, e1, hs, hi1⟩ := store_ok b i h hb hi
 refine ex_bindE e1 ?_
 obtain ⟨⟨a0, a1, a2, a3, a4, a5, a6, rs, ws, i2, h2⟩, e2, hr, hw, hi2⟩ := on_ok b i1 h1 s hb hi1 hs.2
 refine ex_bindE e2 ?_
 dsimp only at hr hw hi2 ⊢
 have hr6 : rs.length ≤ 6 := Nat.le_trans hr (by decide)
 have hw6 : ws.length ≤ 6 := Nat.le_trans hw (by decide)
 obtain ⟨x, i3, h3, e3, _, hi3⟩ := below_ok b i2 h2 16 hb hi2 (by decide) (by decide)
 refine ex_bind e3 ?_
 refine ex_ite (fun _ => ?_) (fun _ => ex_ite (fun _ => ?_) (fun _ => ex_ite (fun _ => ?_) (fun _ => ex_ite (fun _ => ?_) (fun _ => ex_ite (fun _ => ?_) (fun _ => ex_ite (fun _ => ?_) (fun _ => ex_now ⟨hr6, hw6, hi3⟩))))))
 ·obtain ⟨y, i4, h4, e4, hi4⟩ := pick_ok b i3 h3 [0, 9, 10] hb hi3 (by decide) (by decide)
  exact ex_bind e4 (ex_now ⟨hr6, hw6, hi4⟩)
 ·obtain ⟨y, i4, h4, e4, hi4⟩ := pick_ok b i3 h3 [0, 5] hb hi3 (by decide) (by decide)
  exact ex_bind e4 (ex_now ⟨hr6, hw6, hi4⟩)
 ·obtain ⟨y, i4, h4, e4, _, hi4⟩ := below_ok b i3 h3 5 hb hi3 (by decide) (by decide)
  refine ex_bind e4 ?_
  obtain ⟨z, i5, h5, e5, _, hi5⟩ := below_ok b i4 h4 3 hb hi4 (by decide) (by decide)
  exact ex_bind e5 (ex_now ⟨hr6, hw6, hi5⟩)
 ·obtain ⟨y, i4, h4, e4, hi4⟩ := pick_ok b i3 h3 [(-1), 999, 1000] hb hi3 (by decide) (by decide)
  refine ex_bind e4 ?_
  obtain ⟨z, i5, h5, e5, hi5⟩ := pick_ok b i4 h4 [0, 1, 1000, 1001] hb hi4 (by decide) (by decide)
  exact ex_bind e5 (ex_now ⟨hr6, hw6, hi5⟩)
 ·obtain ⟨y, i4, h4, e4, _, hi4⟩ := below_ok b i3 h3 7 hb hi3 (by decide) (by decide)
  refine ex_bind e4 ?_
  obtain ⟨z, i5, h5, e5, hi5⟩ := pick_ok b i4 h4 [(-1), 0, 3, 1000] hb hi4 (by decide) (by decide)
  exact ex_bind e5 (ex_ite (fun _ => ex_now ⟨by simp only [List.length_append, List.length_cons, List.length_nil]; omega, hw6, hi5⟩) (fun c => absurd (show rs.length < 8796093022208 by omega) c))
 ·obtain ⟨y, i4, h4, e4, _, hi4⟩ := below_ok b i3 h3 7 hb hi3 (by decide) (by decide)
  refine ex_bind e4 ?_
  obtain ⟨z, i5, h5, e5, hi5⟩ := pick_ok b i4 h4 [(-2), 100, 0] hb hi4 (by decide) (by decide)
  exact ex_bind e5 (ex_ite (fun _ => ex_now ⟨hr6, by simp only [List.length_append, List.length_cons, List.length_nil]; omega, hi5⟩) (fun c => absurd (show ws.length < 8796093022208 by omega) c))
theorem pair_ok (b : List Int) (i h : Int) (hb : b.length ≤ 1048576) (hi : 0 ≤ i ∧ i ≤ (b.length : Int)) : ∃ r, Ev (fun k => spec_l6Pair.f k b i h) r ∧ (r.2.1.length ≤ 6 ∧ ∀ e ∈ r.2.1, e.length ≤ 6) ∧ TxS 6 b r.2.2 := by
 unfold spec_l6Pair.f
 obtain ⟨⟨s, i1, h1⟩, e1, hs, hi1⟩ := anystore_ok b i h hb hi
 refine ex_bindE e1 ?_
 obtain ⟨⟨a0, a1, a2, a3, a4, a5, a6, rs, ws, i2, h2⟩, e2, hr, hw, hi2⟩ := on_ok b i1 h1 s hb hi1 hs.2
 refine ex_bindE e2 ?_
 dsimp only at hs hr hw hi2 ⊢
 obtain ⟨x, i3, h3, e3, hi3⟩ := once_ok b i2 h2 8 hb hi2 (by decide) (by decide)
 refine ex_bind e3 ?_
 refine ex_ite (fun _ => ?_) (fun _ => ex_now ⟨hs, Nat.le_trans hr (by decide), Nat.le_trans hw (by decide), hi3⟩)
 obtain ⟨⟨c0, c1, c2, c3, c4, c5, c6, rs', ws', i4, h4⟩, e4, hq⟩ := anytx_ok b i3 h3 hb hi3
 exact ex_bindE e4 (ex_now ⟨hs, hq⟩)
theorem choose_ok (b : List Int) (hb : b.length ≤ 1048576) : ∃ r, Ev (fun k => spec_DrawChooseVersion.f k b) r ∧ (r.1.length ≤ 6 ∧ ∀ e ∈ r.1, e.length ≤ 6) ∧ r.2.2.2.2.2.2.2.2.1.length ≤ 6 ∧ r.2.2.2.2.2.2.2.2.2.1.length ≤ 6 := by
 unfold spec_DrawChooseVersion.f
 obtain ⟨h, e0⟩ := new_ok b hb
 refine ex_bindE e0 ?_
 obtain ⟨⟨z, s, a0, a1, a2, a3, a4, a5, a6, rs, ws, i1, h1⟩, e1, hs, hr, hw, hi1⟩ := pair_ok b 0 h hb ⟨Int.le_refl _, Int.natCast_nonneg _⟩
 refine ex_bindE e1 ?_
 dsimp only at hs hr hw hi1 ⊢
 obtain ⟨x, i2, h2, e2, _, _⟩ := below_ok b i1 h1 8 hb hi1 (by decide) (by decide)
 exact ex_bind e2 (ex_now ⟨hs, hr, hw⟩)
theorem write_ok (b : List Int) (hb : b.length ≤ 1048576) : ∃ r, Ev (fun k => spec_DrawWriteCode.f k b) r ∧ (r.1.length ≤ 6 ∧ ∀ e ∈ r.1, e.length ≤ 6) ∧ r.2.1.length ≤ 8 ∧ r.2.2.2.2.2.2.2.2.2.1.length ≤ 6 ∧ r.2.2.2.2.2.2.2.2.2.2.1.length ≤ 6 := by
 unfold spec_DrawWriteCode.f
 obtain ⟨h, e0⟩ := new_ok b hb
 refine ex_bindE e0 ?_
 obtain ⟨⟨z, s, a0, a1, a2, a3, a4, a5, a6, rs, ws, i1, h1⟩, e1, hs, hr, hw, hi1⟩ := pair_ok b 0 h hb ⟨Int.le_refl _, Int.natCast_nonneg _⟩
 refine ex_bindE e1 ?_
 dsimp only at hs hr hw hi1 ⊢
 obtain ⟨⟨lk, i2, h2⟩, e2, hlk, hi2⟩ := locks_ok b i1 h1 hb hi1
 refine ex_bindE e2 ?_
 obtain ⟨x, i3, h3, e3, _, _⟩ := below_ok b i2 h2 8 hb hi2 (by decide) (by decide)
 exact ex_bind e3 (ex_now ⟨hs, hlk, hr, hw⟩)
theorem code_name (n : Int) (h : n = 6 ∨ n = 3 ∨ n = 0) : ∃ t : ByteArray, impl_CodeName.f n = some t ∧ (t.toList == ([] : List UInt8)) = false := by
 rcases h with rfl | rfl | rfl
 ·exact ⟨⟨#[105, 110, 118, 97, 108, 105, 100]⟩, by rfl, by decide +kernel⟩
 ·exact ⟨⟨#[108, 97, 116, 101]⟩, by rfl, by decide +kernel⟩
 ·exact ⟨⟨#[111, 107]⟩, by rfl, by decide +kernel⟩
theorem FnSchemes : laws_FnSchemes.Pure := by
 intro b _ _ _
 apply Ev.rounds
 unfold laws_FnSchemes.f laws_big.f
 simp only [Option.bind_some]
 by_cases h : (b.length : Int) > 1048576
 ·simp only [h, decide_true, if_true]; exact Ev.now _
 have hb : b.length ≤ 1048576 := by omega
 simp only [h, decide_false, Bool.false_eq_true, if_false]
 obtain ⟨⟨s, a0, a1, a2, a3, a4, a5, a6, rs, ws, key⟩, e1, hs, hr, hw⟩ := choose_ok b hb
 refine Ev.bind e1 ?_
 dsimp only at hs hr hw ⊢
 have hs6 : s.length ≤ 1048576 ∧ ∀ e ∈ s, e.length ≤ 1048576 := ⟨by omega, fun e he => Nat.le_trans (hs.2 e he) (by decide)⟩
 obtain ⟨⟨v0, v1, v2, v3, v4, n⟩, e2, e3, hch⟩ := both_Choose2 s a0 a1 a2 a3 a4 a5 a6 rs ws key hs6 (by omega) (by omega)
 refine Ev.bind e3 (Ev.bind e2 ?_)
 obtain ⟨c, e4, e5⟩ := both_CommitCode s a0 a1 a2 a3 a4 a5 a6 rs ws hs6 (by omega) (by omega)
 unfold ChF at hch
 dsimp only at hch ⊢
 simp only [beq_self_eq_true, Bool.not_true, Bool.or_self, Bool.false_eq_true, if_false, if_true]
 refine Ev.bind e5 (Ev.bind e4 ?_)
 simp only [if_true]
 obtain ⟨t, e6, ht⟩ := code_name n (hch.elim Or.inl (fun h => Or.inr (h.elim Or.inl (fun h => Or.inr h.1))))
 simp only [e6, Option.bind_some, ht]
 have last : Ev (fun k => laws_FnSchemes.j1 k key n false s a0 a1 a2 a3 a4 a5 a6 rs ws v0 v1 v2 v3 v4) true := by
  apply Ev.succ
  simp only [laws_FnSchemes.j1, Bool.false_eq_true, if_false]
  by_cases hn : n = 0
  ·rcases hch with h | h | ⟨_, h1, h2⟩
   ·omega
   ·omega
   simp only [if_pos hn]
   by_cases g : a1 = 2
   ·simp only [if_pos g, decide_eq_true (h1 g)]; exact Ev.now _
   ·obtain ⟨k0, k1, hv⟩ := h2 g
    simp only [if_neg g, if_pos k0, if_pos k1]
    refine Ev.bind hv ?_
    simp only [beq_self_eq_true, Bool.and_self]; exact Ev.now _
  ·simp only [if_neg hn]; exact Ev.now _
 apply Ev.succ
 simp only [laws_FnSchemes.j0, Bool.false_eq_true, if_false]
 obtain ⟨⟨s', lk, b0, b1, b2, b3, b4, b5, b6, rs', ws', key'⟩, f1, hs', hlk, hr', hw'⟩ := write_ok b hb
 refine Ev.bind f1 ?_
 dsimp only at hs' hlk hr' hw' ⊢
 obtain ⟨w, f2, f3, hwf⟩ := both_WriteCode2 s' lk b0 b1 b2 b3 b4 b5 b6 rs' ws' key' ⟨by omega, fun e he => Nat.le_trans (hs'.2 e he) (by decide)⟩ (by omega) (by omega) (by omega)
 refine Ev.bind f3 (Ev.bind f2 ?_)
 simp only [if_true]
 obtain ⟨w1, w3⟩ := hwf
 have hopt : Ev (fun k => if b1 = 3 then (if w = 0 then laws_FnSchemes.j1 k key n false s a0 a1 a2 a3 a4 a5 a6 rs ws v0 v1 v2 v3 v4 else laws_FnSchemes.j1 k key n (w != 6) s a0 a1 a2 a3 a4 a5 a6 rs ws v0 v1 v2 v3 v4) else laws_FnSchemes.j1 k key n false s a0 a1 a2 a3 a4 a5 a6 rs ws v0 v1 v2 v3 v4) true := by
  by_cases g : b1 = 3
  ·simp only [if_pos g]
   rcases w3 g with q | q
   ·simp only [if_pos q]; exact last
   ·have q0 : ¬ w = 0 := by omega
    simp only [if_neg q0]
    subst q; exact last
  ·simp only [if_neg g]; exact last
 by_cases q : w = 1
 ·simp only [if_pos q]
  have ht : impl_TakesLocks.f b1 = some true := by unfold impl_TakesLocks.f; rw [if_pos (w1 q)]
  simp only [ht, Option.bind_some, if_true]
  exact hopt
 ·simp only [if_neg q]; exact hopt
end Go.Proofs.Ytdgknikgfjhohaa.Pure
