/- The plain statement of FnIndexes: what is drawn ends; both functions split alike, and a split keeps the index an index; both tell alike if a scan is fresh, and a later mark in its range makes it stale. Condition: the code's length is at most maxLen. -/
import Derived.Test.YtpiaeinfneoioaaPFnIndexesx9
import Derived.Test.YtpiaeinfneoioaaPlainU
namespace Go.Proofs.Ytpiaeinfneoioaa.Pure
open Go.RowKit Go.Proofs.Ytpiaeinfneoioaa.PFnIndexes Go.Proofs.YtpiaeinfneoioaaW.PrintWords Go.Proofs.YtpiaeinfneoioaaW.PrintLast Go.Proofs.Ytpiaeinfneoioaa.Plain
set_option linter.unusedVariables false
set_option linter.unusedSimpArgs false


theorem ex_succ {α : Type} {g : Nat → Option α} {P : α → Prop} (h : ∃ r, Ev (fun k => g (k + 1)) r ∧ P r) : ∃ r, Ev g r ∧ P r := by
  obtain ⟨r, a, b⟩ := h
  exact ⟨r, Ev.succ a, b⟩
theorem ex_ite {α : Type} {c : Prop} [Decidable c] {f g : Nat → Option α} {P : α → Prop} (h1 : c → ∃ r, Ev f r ∧ P r) (h2 : ¬ c → ∃ r, Ev g r ∧ P r) : ∃ r, Ev (fun k => if c then f k else g k) r ∧ P r := by
  by_cases h : c
  · simpa only [if_pos h] using h1 h
  · simpa only [if_neg h] using h2 h
theorem ex_now {α : Type} {x : α} {P : α → Prop} (h : P x) : ∃ r, Ev (fun _ => some x) r ∧ P r := ⟨x, Ev.now _, h⟩
theorem ex_bind {α β : Type} {x : Option α} {a : α} (e : x = some a) {g : Nat → α → Option β} {P : β → Prop} (h : ∃ r, Ev (fun k => g k a) r ∧ P r) : ∃ r, Ev (fun k => x.bind (g k)) r ∧ P r := by
  subst e; exact h
theorem ex_bindE {α β : Type} {f : Nat → Option α} {a : α} (e : Ev f a) {g : Nat → α → Option β} {P : β → Prop} (h : ∃ r, Ev (fun k => g k a) r ∧ P r) : ∃ r, Ev (fun k => (f k).bind (g k)) r ∧ P r := by
  obtain ⟨r, h1, h2⟩ := h
  exact ⟨r, Ev.bind e h1, h2⟩
theorem and255 (x : Int) : 0 ≤ Go.bits .and .i64 x 255 ∧ Go.bits .and .i64 x 255 ≤ 255 := by
  have h : Go.bits .and .i64 x 255 = IntKind.i64.wrap (((BitVec.ofInt 64 x &&& BitVec.ofInt 64 255).toNat : Nat) : Int) := rfl
  rw [h, BitVec.toNat_and, show (BitVec.ofInt 64 255).toNat = 255 from by decide]
  have h3 : (BitVec.ofInt 64 x).toNat &&& 255 ≤ 255 := Nat.and_le_right
  rw [IntKind.wrap_i64]; omega
theorem byte_ok (b : List Int) (i h : Int) (hb : b.length ≤ 1048576) (hi : 0 ≤ i ∧ i ≤ (b.length : Int)) : ∃ x i' h', spec_l1Byte.f b i h = some (x, i', h') ∧ (0 ≤ x ∧ x ≤ 255) ∧ (0 ≤ i' ∧ i' ≤ (b.length : Int)) := by
  unfold spec_l1Byte.f
  by_cases c : i < (b.length : Int)
  · have hw : wrap64 (i + 1) = i + 1 := wrap_in (by omega) (by omega)
    rw [if_pos c, if_pos hi.1, hw]
    exact ⟨_, _, _, rfl, and255 _, by omega, by omega⟩
  · rw [if_neg c]
    exact ⟨_, _, _, rfl, and255 _, hi⟩
theorem below_ok (b : List Int) (i h n : Int) (hb : b.length ≤ 1048576) (hi : 0 ≤ i ∧ i ≤ (b.length : Int)) (hn : 1 ≤ n) (hn' : n ≤ 256) : ∃ x i' h', spec_l1Below.f b i h n = some (x, i', h') ∧ (0 ≤ x ∧ x < n) ∧ (0 ≤ i' ∧ i' ≤ (b.length : Int)) := by
  obtain ⟨x, i', h', e, hx, hi'⟩ := byte_ok b i h hb hi
  have c0 : ¬ n ≤ 0 := by omega
  have c2 : ¬ n = 0 := by omega
  refine ⟨Int.tmod x n, i', h', ?_, ⟨Int.tmod_nonneg n hx.1, Int.tmod_lt_of_pos x (by omega)⟩, hi'⟩
  unfold spec_l1Below.f
  rw [if_neg c0, if_pos hn', e]
  show (if n = 0 then none else some (Int.tmod x n, i', h')) = _
  rw [if_neg c2]
theorem once_ok (b : List Int) (i h n : Int) (hb : b.length ≤ 1048576) (hi : 0 ≤ i ∧ i ≤ (b.length : Int)) (hn : 1 ≤ n) (hn' : n ≤ 256) : ∃ x i' h', spec_l1Once.f b i h n = some (x, i', h') ∧ (0 ≤ i' ∧ i' ≤ (b.length : Int)) := by
  obtain ⟨x, i', h', e, hx, hi'⟩ := below_ok b i h n hb hi hn hn'
  refine ⟨x == 0, i', h', ?_, hi'⟩
  unfold spec_l1Once.f
  rw [e]; rfl
theorem pick_ok (b : List Int) (i h : Int) (l : List Int) (hb : b.length ≤ 1048576) (hi : 0 ≤ i ∧ i ≤ (b.length : Int)) (hn : 1 ≤ (l.length : Int)) (hn' : (l.length : Int) ≤ 256) : ∃ x i' h', spec_l1PickInt.f b i h l = some (x, i', h') ∧ (0 ≤ i' ∧ i' ≤ (b.length : Int)) := by
  obtain ⟨x, i', h', e, hx, hi'⟩ := below_ok b i h (l.length : Int) hb hi hn hn'
  refine ⟨rd l x, i', h', ?_, hi'⟩
  unfold spec_l1PickInt.f
  rw [e]
  show (if 0 ≤ x then (if x < (l.length : Int) then some (rd l x, i', h') else none) else none) = _
  rw [if_pos hx.1, if_pos hx.2]
theorem new_ok (b : List Int) (hb : b.length ≤ 1048576) : ∃ h, Ev (fun k => spec_l1New.f k b) (b, 0, h) := by
  have key : ∃ r, Ev (fun k => spec_l1New.l0 k b (wrap64 (10101 + (b.length : Int))) ((0 : Nat) : Int)) r ∧ ∃ h, r = (b, 0, h) := by
    refine ev_to (σ := Int) (fun s i k => spec_l1New.l0 k b s (i : Int)) b.length (fun _ _ => True) (fun r => ∃ h, r = (b, 0, h)) ?_ ?_ (wrap64 (10101 + (b.length : Int))) 0 (Nat.zero_le _) trivial
    · intro s i hi _ ih
      have h1 : (i : Int) < (b.length : Int) := by omega
      apply ex_succ
      simp only [spec_l1New.l0]
      rw [wrap_up hi (by omega)]
      exact ex_ite (fun _ => ex_ite (fun _ => ex_ite (fun _ => ih _ trivial) (fun c => absurd (Int.natCast_nonneg i) c)) (fun _ => ex_now ⟨_, rfl⟩)) (fun _ => ex_now ⟨_, rfl⟩)
    · intro s _
      apply ex_succ
      simp only [spec_l1New.l0]
      exact ex_ite (fun c => absurd c (Int.lt_irrefl _)) (fun _ => ex_now ⟨_, rfl⟩)
  obtain ⟨r, h, x, rfl⟩ := key
  exact ⟨x, h⟩
theorem l1In_eq (a b c : Int) : spec_l1In.f a b c = some (decide (b ≤ a) && decide (a ≤ c)) := by
  by_cases h : b ≤ a <;> simp [spec_l1In.f, h]
theorem in_eq (a b c : Int) : impl_in.f a b c = some (decide (b ≤ a) && decide (a ≤ c)) := by
  by_cases h : b ≤ a <;> simp [impl_in.f, h]
def Ix : Int → List S77 → Prop
  | n, [] => n = 6
  | n, x :: l => x.f0 = n ∧ (x.f0 ≤ x.f1 ∧ x.f1 ≤ 5) ∧ (0 ≤ x.f2 ∧ x.f2 ≤ 999) ∧ Ix (x.f1 + 1) l
theorem rdI (l : List S77) (i : Nat) (hi : i < l.length) : rd_T77 l (i : Int) = l[i] := by simp [rd_T77, hi]
theorem ix_lo0 : ∀ {n : Int} {l : List S77}, Ix n l → ∀ e ∈ l, n ≤ e.f0 ∧ (e.f0 ≤ e.f1 ∧ e.f1 ≤ 5) ∧ (0 ≤ e.f2 ∧ e.f2 ≤ 999)
  | _, [], _, e, he => absurd he (by simp)
  | n, x :: l, h, e, he => by
    rcases List.mem_cons.1 he with rfl | hm
    · exact ⟨by rw [h.1]; exact Int.le_refl _, h.2.1, h.2.2.1⟩
    · have := ix_lo0 h.2.2.2 e hm
      have h1 := h.1
      have h2 := h.2.1
      exact ⟨by omega, this.2⟩
theorem ix_lo {l : List S77} (h : Ix 0 l) (e : S77) (he : e ∈ l) : 0 ≤ e.f1 := by
  have := ix_lo0 h e he; omega
theorem ix_n : ∀ {n : Int} {l : List S77}, Ix n l → n ≤ 6 ∧ l.length + n ≤ 6
  | _, [], h => by simp only [Ix] at h; simp; omega
  | n, x :: l, h => by
    have := ix_n h.2.2.2
    have h1 := h.1
    have h2 := h.2.1
    rw [List.length_cons]; omega
theorem ix_pair : ∀ {n : Int} {l : List S77}, Ix n l → l.Pairwise (fun x y => x.f1 < y.f0)
  | _, [], _ => List.Pairwise.nil
  | n, x :: l, h => by
    refine List.Pairwise.cons (fun y hy => ?_) (ix_pair h.2.2.2)
    have := (ix_lo0 h.2.2.2 y hy).1; omega
theorem ix_asc {l : List S77} (h : Ix 0 l) : ∀ i j : Nat, i < j → j < l.length → (rd_T77 l (i : Int)).f1 < (rd_T77 l (j : Int)).f0 := by
  intro i j hij hj
  rw [rdI l i (by omega), rdI l j hj]
  exact List.pairwise_iff_getElem.1 (ix_pair h) i j (by omega) hj hij
theorem index_both (l : List S77) (hl : l.length ≤ 1048576) : ∃ r, Ev (fun k => spec_IsIndex.f k l) r ∧ Ev (fun k => impl_IsIndex.f k l) r ∧ (r = true ↔ Ix 0 l) := by
  refine ev_both (σ := Int) (τ := Int) (fun s i k => spec_IsIndex.l0 k l s (i : Int)) (fun s i k => impl_IsIndex.l0 k s l (l.length : Int) (i : Int)) l.length (fun s t i => s = t ∧ 0 ≤ s ∧ (Ix 0 l ↔ Ix s (l.drop i))) (fun r => r = true ↔ Ix 0 l) ?_ ?_ 0 0 0 (Nat.zero_le _) ⟨rfl, Int.le_refl _, Iff.rfl⟩
  · rintro s _ i hi ⟨rfl, hs0, hI⟩ ih
    have h1 : (i : Int) < (l.length : Int) := by omega
    have e0 := wrap_up hi (by omega)
    have hrd := rdI l i hi
    rw [List.drop_eq_getElem_cons hi] at hI
    simp only [Ix] at hI
    have hf : ∀ {P : Prop}, ¬ P → ((false = true) ↔ P) := fun h => ⟨fun h' => (nomatch h'), fun h' => absurd h' h⟩
    by_cases c0 : l[i].f0 = s
    · by_cases c1 : l[i].f0 ≤ l[i].f1 ∧ l[i].f1 ≤ 5
      · have i1 : (decide (l[i].f0 ≤ l[i].f1) && decide (l[i].f1 ≤ 5)) = true := by simp [c1]
        by_cases c2 : 0 ≤ l[i].f2 ∧ l[i].f2 ≤ 999
        · have i2 : (decide (0 ≤ l[i].f2) && decide (l[i].f2 ≤ 999)) = true := by simp [c2]
          have hw : wrap64 (l[i].f1 + 1) = l[i].f1 + 1 := wrap_in (by omega) (by omega)
          obtain ⟨r, e1, e2, hR⟩ := ih (l[i].f1 + 1) (l[i].f1 + 1) ⟨rfl, by omega, by rw [hI]; exact ⟨fun h => h.2.2.2, fun h => ⟨c0, c1, c2, h⟩⟩⟩
          refine ⟨r, Ev.succ ?_, Ev.succ ?_, hR⟩
          · simp only [spec_IsIndex.l0, l1In_eq, hrd, h1, i1, i2, e0, hw, Option.bind_some, Int.natCast_nonneg, if_true, if_pos c0]; exact e1
          · simp only [impl_IsIndex.l0, in_eq, hrd, h1, i1, i2, e0, hw, Option.bind_some, Int.natCast_nonneg, if_true, if_pos c0]; exact e2
        · have i2 : (decide (0 ≤ l[i].f2) && decide (l[i].f2 ≤ 999)) = false := by
            rw [Bool.and_eq_false_iff, decide_eq_false_iff_not, decide_eq_false_iff_not]; omega
          refine ⟨false, Ev.succ ?_, Ev.succ ?_, hf (fun h => c2 (hI.1 h).2.2.1)⟩
          · simp only [spec_IsIndex.l0, l1In_eq, hrd, h1, i1, i2, Option.bind_some, Int.natCast_nonneg, if_true, if_pos c0, Bool.false_eq_true, if_false]; exact Ev.now _
          · simp only [impl_IsIndex.l0, in_eq, hrd, h1, i1, i2, Option.bind_some, Int.natCast_nonneg, if_true, if_pos c0, Bool.false_eq_true, if_false]; exact Ev.now _
      · have i1 : (decide (l[i].f0 ≤ l[i].f1) && decide (l[i].f1 ≤ 5)) = false := by
          rw [Bool.and_eq_false_iff, decide_eq_false_iff_not, decide_eq_false_iff_not]; omega
        refine ⟨false, Ev.succ ?_, Ev.succ ?_, hf (fun h => c1 (hI.1 h).2.1)⟩
        · simp only [spec_IsIndex.l0, l1In_eq, hrd, h1, i1, Option.bind_some, Int.natCast_nonneg, if_true, if_pos c0, Bool.false_eq_true, if_false]; exact Ev.now _
        · simp only [impl_IsIndex.l0, in_eq, hrd, h1, i1, Option.bind_some, Int.natCast_nonneg, if_true, if_pos c0, Bool.false_eq_true, if_false]; exact Ev.now _
    · refine ⟨false, Ev.succ ?_, Ev.succ ?_, hf (fun h => c0 (hI.1 h).1)⟩
      · simp only [spec_IsIndex.l0, hrd, h1, Int.natCast_nonneg, if_true, if_neg c0]; exact Ev.now _
      · simp only [impl_IsIndex.l0, hrd, h1, Int.natCast_nonneg, if_true, if_neg c0]; exact Ev.now _
  · rintro s _ ⟨rfl, _, hI⟩
    rw [List.drop_length] at hI
    simp only [Ix] at hI
    refine ⟨s == 6, Ev.succ ?_, Ev.succ ?_, by rw [beq_iff_eq]; exact hI.symm⟩
    · simp only [spec_IsIndex.l0, Int.lt_irrefl, if_false]; exact Ev.now _
    · simp only [impl_IsIndex.l0, Int.lt_irrefl, if_false]; exact Ev.now _
theorem ix_split : ∀ {n : Int} {l : List S77} (a : Int) (t : Nat) (ht : t < l.length), 0 ≤ n → Ix n l → l[t].f0 < a → a ≤ l[t].f1 → Ix n (l.take t ++ [(⟨l[t].f0, wrap64 (a - 1), l[t].f2⟩ : S77), (⟨a, l[t].f1, l[t].f2⟩ : S77)] ++ l.drop (t + 1))
  | _, [], _, t, ht, _, _, _, _ => absurd ht (by simp)
  | n, x :: l, a, 0, _, hn, h, h0, h1 => by
    simp only [List.getElem_cons_zero] at h0 h1
    have hx := h.2.1
    have hw : wrap64 (a - 1) = a - 1 := wrap_in (by have := h.1; omega) (by omega)
    simp only [List.take_zero, List.nil_append, List.getElem_cons_zero, Nat.zero_add, List.drop_succ_cons, List.drop_zero, List.cons_append, Ix, hw]
    exact ⟨h.1, ⟨by omega, by omega⟩, h.2.2.1, by omega, ⟨by omega, by omega⟩, h.2.2.1, h.2.2.2⟩
  | n, x :: l, a, t + 1, ht, hn, h, h0, h1 => by
    simp only [List.getElem_cons_succ] at h0 h1
    have ih := ix_split a t (by simpa using ht) (by have := h.1; have := h.2.1; omega) h.2.2.2 h0 h1
    simp only [List.take_succ_cons, List.getElem_cons_succ, List.drop_succ_cons, List.cons_append, Ix]
    exact ⟨h.1, h.2.1, h.2.2.1, ih⟩
theorem ix_map : ∀ {n : Int} {l : List S77} (g : S77 → S77), (∀ e ∈ l, (g e).f0 = e.f0 ∧ (g e).f1 = e.f1 ∧ (0 ≤ (g e).f2 ∧ (g e).f2 ≤ 999)) → Ix n l → Ix n (l.map g)
  | _, [], _, _, h => h
  | n, x :: l, g, hg, h => by
    obtain ⟨g0, g1, g2⟩ := hg x (List.mem_cons_self ..)
    simp only [List.map_cons, Ix, g0, g1]
    exact ⟨h.1, h.2.1, g2, ix_map g (fun e he => hg e (List.mem_cons_of_mem _ he)) h.2.2.2⟩
theorem ix_cover : ∀ {n : Int} {l : List S77} (a : Int), Ix n l → n ≤ a → a ≤ 5 → ∃ e ∈ l, e.f0 ≤ a ∧ a ≤ e.f1
  | _, [], a, h, h0, h1 => by simp only [Ix] at h; omega
  | n, x :: l, a, h, h0, h1 => by
    by_cases c : a ≤ x.f1
    · exact ⟨x, List.mem_cons_self .., by have := h.1; omega, c⟩
    · obtain ⟨e, he, g⟩ := ix_cover a h.2.2.2 (by omega) h1
      exact ⟨e, List.mem_cons_of_mem _ he, g⟩
theorem ev_firstS (p : S77 → Bool) (a : Int) (hp : ∀ e : S77, impl_SplitNode_1.f e.f0 e.f1 e.f2 a = some (p e)) (l : List S77) (hl : l.length ≤ 1048576) : ∃ q, Ev (fun k => impl_IndexNode_156_b7.f k l a) q ∧ ((q = -1 ∧ ∀ j (hj : j < l.length), p l[j] = false) ∨ (∃ t : Nat, ∃ ht : t < l.length, q = (t : Int) ∧ p l[t] = true ∧ ∀ j (hj : j < l.length), j < t → p l[j] = false)) := by
  show ∃ q, Ev (fun k => impl_IndexNode_156_b7.l0 k l (l.length : Int) ((0 : Nat) : Int) a) q ∧ _
  refine ev_to (σ := Unit) (fun _ i k => impl_IndexNode_156_b7.l0 k l (l.length : Int) (i : Int) a) l.length (fun _ i => ∀ j (hj : j < l.length), j < i → p l[j] = false) (fun q => (q = -1 ∧ ∀ j (hj : j < l.length), p l[j] = false) ∨ (∃ t : Nat, ∃ ht : t < l.length, q = (t : Int) ∧ p l[t] = true ∧ ∀ j (hj : j < l.length), j < t → p l[j] = false)) ?_ ?_ () 0 (Nat.zero_le _) (fun j hj h => absurd h (by omega))
  · intro _ i hi hI ih
    have h1 : (i : Int) < (l.length : Int) := by omega
    have e0 := wrap_up hi (by omega)
    have hrd : rd_T77 l (i : Int) = l[i] := by simp [rd_T77, hi]
    by_cases c : p (rd_T77 l (i : Int)) = true
    · refine ⟨(i : Int), Ev.succ ?_, .inr ⟨i, hi, rfl, by rw [← hrd]; exact c, hI⟩⟩
      simp only [impl_IndexNode_156_b7.l0, h1, hp, c, Int.natCast_nonneg, if_true, Option.bind_some]; exact Ev.now _
    · have cb : p (rd_T77 l (i : Int)) = false := by simpa using c
      obtain ⟨q, hs, hR⟩ := ih () (fun j hj hji => if hh : j < i then hI j hj hh else by obtain rfl : j = i := (by omega); rw [← hrd]; exact cb)
      refine ⟨q, Ev.succ ?_, hR⟩
      simp only [impl_IndexNode_156_b7.l0, h1, hp, cb, e0, Int.natCast_nonneg, if_true, if_false, Option.bind_some, Bool.false_eq_true]; exact hs
  · intro _ hI
    refine ⟨-1, Ev.succ ?_, .inl ⟨rfl, fun j hj => hI j hj hj⟩⟩
    simp only [impl_IndexNode_156_b7.l0, Int.lt_irrefl, if_false]; exact Ev.now _
theorem both_SplitNode2 (l : List S77) (a : Int) (hl : l.length ≤ 1048576) : ∃ r, Ev (fun k => spec_SplitNode.f k l a) r ∧ Ev (fun k => impl_SplitNode.f k l a) r ∧ (r = (l, false) ∨ ∃ (t : Nat) (ht : t < l.length), r = (l.take t ++ [(⟨l[t].f0, wrap64 (a - 1), l[t].f2⟩ : S77), (⟨a, l[t].f1, l[t].f2⟩ : S77)] ++ l.drop (t + 1), true) ∧ l[t].f0 < a ∧ a ≤ l[t].f1 ∧ Ix 0 l) := by
  obtain ⟨ok, eS, eI, hI⟩ := index_both l hl
  have hcap : ([] : List S77).length + l.length < 5864062014805 := by simp; omega
  have hcopy : spec_l16Copy.f l = some l := by simp only [spec_l16Copy.f, Option.bind_some, hcap, if_true, List.nil_append]
  have hclone : impl_IndexNode_127.f l = some l := by simp only [impl_IndexNode_127.f, Option.bind_some, hcap, if_true, List.nil_append]
  obtain ⟨q, eq, hq⟩ := ev_firstS (fun e => decide (e.f0 < a) && decide (a ≤ e.f1)) a (by intro e; by_cases c : e.f0 < a <;> simp [impl_SplitNode_1.f, c]) l hl
  have jT : ∀ i : Nat, Ev (fun k => spec_SplitNode.j1 k l a [] false (i : Int) false) (l, false) := fun i => Ev.succ (by simp only [spec_SplitNode.j1, hcopy, Option.bind_some, Bool.false_eq_true, if_false]; exact Ev.now _)
  by_cases hk : ok = true
  rotate_left 1
  · refine ⟨(l, false), ?_, ?_, .inl rfl⟩
    · show Ev (fun k => spec_SplitNode.l0 k l a [] false ((0 : Nat) : Int)) _
      apply Ev.succ
      by_cases h0 : ((0 : Nat) : Int) < (l.length : Int)
      · simp only [spec_SplitNode.l0, h0, if_true]
        refine Ev.bind eS ?_
        simp only [hk]; exact jT 0
      · simp only [spec_SplitNode.l0, h0, if_false]; exact jT 0
    · unfold impl_SplitNode.f
      refine Ev.bind eq ?_
      simp only [hclone, Option.bind_some]
      by_cases hq0 : q < 0
      · simp only [hq0, if_true]; exact Ev.now _
      · simp only [hq0, if_false]
        refine Ev.bind eI ?_
        simp only [hk, if_false]; exact Ev.now _
  subst hk
  have hIx := hI.1 rfl
  have hI := ix_asc hIx
  have hno : ∀ (ys : List S77) (d : Bool) (i : Nat) (hi : i < l.length) (r : List S77 × Bool), ys.length ≤ 2097152 → (decide (l[i].f0 < a) && decide (a ≤ l[i].f1)) = false → Ev (fun k => spec_SplitNode.l0 k l a (ys ++ [l[i]]) d ((i + 1 : Nat) : Int)) r → Ev (fun k => spec_SplitNode.l0 k l a ys d (i : Int)) r := by
    intro ys d i hi r hys hp h
    have h1 : (i : Int) < (l.length : Int) := by omega
    have h2 : ys.length < 5864062014805 := by omega
    have hrd : rd_T77 l (i : Int) = l[i] := by simp [rd_T77, hi]
    apply Ev.succ
    simp only [spec_SplitNode.l0, h1, if_true]
    refine Ev.bind eS ?_
    apply Ev.succ
    simp only [spec_SplitNode.j1, h1, h2, hrd, Int.natCast_nonneg, if_true, wrap_up hi (by omega), gt_iff_lt]
    by_cases c : l[i].f0 < a
    · have c2 : ¬ a ≤ l[i].f1 := by simpa [c] using hp
      simp only [c, c2, if_true, if_false]; exact h
    · simp only [c, if_false]; exact h
  have hstop : ∀ (ys : List S77) (d : Bool), Ev (fun k => spec_SplitNode.l0 k l a ys d (l.length : Int)) (if d = true then (ys, true) else (l, false)) := by
    intro ys d
    apply Ev.succ
    simp only [spec_SplitNode.l0, Int.lt_irrefl, if_false]
    apply Ev.succ
    simp only [spec_SplitNode.j1, hcopy, Option.bind_some, Bool.false_eq_true, if_false]
    cases d
    · simp only [Bool.false_eq_true, if_false]; exact Ev.now _
    · simp only [if_true]; exact Ev.now _
  rcases hq with ⟨rfl, hn⟩ | ⟨t, ht, rfl, hpt, hn⟩
  · refine ⟨(l, false), ?_, ?_, .inl rfl⟩
    · show Ev (fun k => spec_SplitNode.l0 k l a [] false ((0 : Nat) : Int)) _
      refine ev_up (σ := List S77) (fun ys i k => spec_SplitNode.l0 k l a ys false (i : Int)) l.length (fun ys i => ys.length = i) (fun _ _ => (l, false)) ?_ ?_ [] 0 (Nat.zero_le _) rfl
      · intro ys i hi hys ih
        exact hno ys false i hi _ (by omega) (hn i hi) (ih _ (by simp [hys]))
      · intro ys _
        exact hstop ys false
    · unfold impl_SplitNode.f
      refine Ev.bind eq ?_
      simp only [hclone, Option.bind_some, show ((-1 : Int) < 0) by decide, if_true]; exact Ev.now _
  · have hrdt : rd_T77 l (t : Int) = l[t] := by simp [rd_T77, ht]
    simp only [Bool.and_eq_true, decide_eq_true_eq] at hpt
    obtain ⟨hp0, hp1⟩ := hpt
    refine ⟨(l.take t ++ [(⟨l[t].f0, wrap64 (a - 1), l[t].f2⟩ : S77), (⟨a, l[t].f1, l[t].f2⟩ : S77)] ++ l.drop (t + 1), true), ?_, ?_, .inr ⟨t, ht, rfl, hp0, hp1, hIx⟩⟩
    · show Ev (fun k => spec_SplitNode.l0 k l a [] false ((0 : Nat) : Int)) _
      refine ev_up (σ := List S77) (fun ys i k => spec_SplitNode.l0 k l a ys false (i : Int)) t (fun ys i => ys = l.take i) (fun _ _ => (l.take t ++ [(⟨l[t].f0, wrap64 (a - 1), l[t].f2⟩ : S77), (⟨a, l[t].f1, l[t].f2⟩ : S77)] ++ l.drop (t + 1), true)) ?_ ?_ [] 0 (Nat.zero_le _) (by simp)
      · rintro ys i hi rfl ih
        have hi' : i < l.length := by omega
        exact hno _ false i hi' _ (by simp; omega) (hn i hi' hi) (ih _ (by rw [List.take_succ_eq_append_getElem hi']))
      · rintro ys rfl
        have h1 : (t : Int) < (l.length : Int) := by omega
        have h2 : (l.take t).length + [(⟨l[t].f0, wrap64 (a - 1), l[t].f2⟩ : S77), (⟨a, l[t].f1, l[t].f2⟩ : S77)].length < 5864062014805 := by simp; omega
        apply Ev.succ
        simp only [spec_SplitNode.l0, h1, if_true]
        refine Ev.bind eS ?_
        apply Ev.succ
        simp only [spec_SplitNode.j1, h1, hrdt, hp0, hp1, Int.natCast_nonneg, if_true, wrap_up ht (by omega), gt_iff_lt, Option.bind_some, h2]
        refine ev_up (σ := List S77) (fun ys i k => spec_SplitNode.l0 k l a ys true (i : Int)) l.length (fun ys i => t < i ∧ ys ++ l.drop i = l.take t ++ [(⟨l[t].f0, wrap64 (a - 1), l[t].f2⟩ : S77), (⟨a, l[t].f1, l[t].f2⟩ : S77)] ++ l.drop (t + 1)) (fun _ _ => (l.take t ++ [(⟨l[t].f0, wrap64 (a - 1), l[t].f2⟩ : S77), (⟨a, l[t].f1, l[t].f2⟩ : S77)] ++ l.drop (t + 1), true)) ?_ ?_ _ (t + 1) ht ⟨Nat.lt_succ_self _, rfl⟩
        · rintro ys i hi ⟨hti, hys⟩ ih
          have hrdi : rd_T77 l (i : Int) = l[i] := by simp [rd_T77, hi]
          have hd := hI t i hti hi
          rw [hrdt, hrdi] at hd
          have hlen : ys.length ≤ 2097152 := by
            have := congrArg List.length hys
            simp at this; omega
          refine hno ys true i hi _ hlen ?_ (ih _ ⟨by omega, ?_⟩)
          · have c : ¬ l[i].f0 < a := by omega
            simp [c]
          · rw [List.append_assoc, List.singleton_append, List.getElem_cons_drop]; exact hys
        · rintro ys ⟨_, hys⟩
          rw [List.drop_length, List.append_nil] at hys
          rw [← hys]
          exact hstop ys true
    · unfold impl_SplitNode.f
      refine Ev.bind eq ?_
      have h0 : ¬ ((t : Int) < 0) := by omega
      have h1 : (t : Int) < (l.length : Int) := by omega
      have h2 : ((t + 1 : Nat) : Int) ≤ ((l.set t (⟨l[t].f0, wrap64 (a - 1), l[t].f2⟩ : S77)).length : Int) := by simp; omega
      simp only [hclone, Option.bind_some, h0, if_false]
      refine Ev.bind eI ?_
      have hins : impl_IndexNode_158.f (l.set t (⟨l[t].f0, wrap64 (a - 1), l[t].f2⟩ : S77)) ((t + 1 : Nat) : Int) [(⟨a, l[t].f1, l[t].f2⟩ : S77)] = some (l.take t ++ [(⟨l[t].f0, wrap64 (a - 1), l[t].f2⟩ : S77), (⟨a, l[t].f1, l[t].f2⟩ : S77)] ++ l.drop (t + 1)) := by
        unfold impl_IndexNode_158.f
        rw [if_pos ⟨Int.natCast_nonneg _, h2, rfl, by simp; omega⟩, Int.toNat_natCast, List.set_eq_take_append_cons_drop, if_pos ht]
        have e1 : (List.take t l).length = t := by simp; omega
        have e2 : (List.take t l ++ (⟨l[t].f0, wrap64 (a - 1), l[t].f2⟩ : S77) :: List.drop (t + 1) l) = (List.take t l ++ [(⟨l[t].f0, wrap64 (a - 1), l[t].f2⟩ : S77)]) ++ List.drop (t + 1) l := by simp
        have e3 : (List.take t l ++ [(⟨l[t].f0, wrap64 (a - 1), l[t].f2⟩ : S77)]).length = t + 1 := by simp; omega
        rw [e2, List.take_left' e3, List.drop_left' e3]
        simp
      simp only [Int.natCast_nonneg, h1, hrdt, Int.toNat_natCast, wrap_up ht (by omega), hins, if_true, Option.bind_some]
      exact Ev.now _
theorem ev_firstM (p : S77 → Bool) (a : Int) (hp : ∀ e : S77, impl_ScanIsFresh_1.f e.f0 e.f1 e.f2 a = some (p e)) (l : List S77) (hl : l.length ≤ 1048576) : ∃ q, Ev (fun k => impl_IndexNode_156.f k l a) q ∧ ((q = -1 ∧ ∀ j (hj : j < l.length), p l[j] = false) ∨ (∃ t : Nat, ∃ ht : t < l.length, q = (t : Int) ∧ p l[t] = true ∧ ∀ j (hj : j < l.length), j < t → p l[j] = false)) := by
  show ∃ q, Ev (fun k => impl_IndexNode_156.l0 k l (l.length : Int) ((0 : Nat) : Int) a) q ∧ _
  refine ev_to (σ := Unit) (fun _ i k => impl_IndexNode_156.l0 k l (l.length : Int) (i : Int) a) l.length (fun _ i => ∀ j (hj : j < l.length), j < i → p l[j] = false) (fun q => (q = -1 ∧ ∀ j (hj : j < l.length), p l[j] = false) ∨ (∃ t : Nat, ∃ ht : t < l.length, q = (t : Int) ∧ p l[t] = true ∧ ∀ j (hj : j < l.length), j < t → p l[j] = false)) ?_ ?_ () 0 (Nat.zero_le _) (fun j hj h => absurd h (by omega))
  · intro _ i hi hI ih
    have h1 : (i : Int) < (l.length : Int) := by omega
    have e0 := wrap_up hi (by omega)
    have hrd : rd_T77 l (i : Int) = l[i] := by simp [rd_T77, hi]
    by_cases c : p (rd_T77 l (i : Int)) = true
    · refine ⟨(i : Int), Ev.succ ?_, .inr ⟨i, hi, rfl, by rw [← hrd]; exact c, hI⟩⟩
      simp only [impl_IndexNode_156.l0, h1, hp, c, Int.natCast_nonneg, if_true, Option.bind_some]; exact Ev.now _
    · have cb : p (rd_T77 l (i : Int)) = false := by simpa using c
      obtain ⟨q, hs, hR⟩ := ih () (fun j hj hji => if hh : j < i then hI j hj hh else by obtain rfl : j = i := (by omega); rw [← hrd]; exact cb)
      refine ⟨q, Ev.succ ?_, hR⟩
      simp only [impl_IndexNode_156.l0, h1, hp, cb, e0, Int.natCast_nonneg, if_true, if_false, Option.bind_some, Bool.false_eq_true]; exact hs
  · intro _ hI
    refine ⟨-1, Ev.succ ?_, .inl ⟨rfl, fun j hj => hI j hj hj⟩⟩
    simp only [impl_IndexNode_156.l0, Int.lt_irrefl, if_false]; exact Ev.now _
theorem ev_first (p : S77 → Bool) (a b : Int) (hp : ∀ e : S77, impl_NodesFor_1.f e.f0 e.f1 e.f2 a b = some (p e)) (l : List S77) (hl : l.length ≤ 1048576) : ∃ q, Ev (fun k => impl_IndexNode_156_b8.f k l a b) q ∧ ((q = -1 ∧ ∀ j (hj : j < l.length), p l[j] = false) ∨ (∃ t : Nat, ∃ ht : t < l.length, q = (t : Int) ∧ p l[t] = true ∧ ∀ j (hj : j < l.length), j < t → p l[j] = false)) := by
  show ∃ q, Ev (fun k => impl_IndexNode_156_b8.l0 k l (l.length : Int) ((0 : Nat) : Int) a b) q ∧ _
  refine ev_to (σ := Unit) (fun _ i k => impl_IndexNode_156_b8.l0 k l (l.length : Int) (i : Int) a b) l.length (fun _ i => ∀ j (hj : j < l.length), j < i → p l[j] = false) (fun q => (q = -1 ∧ ∀ j (hj : j < l.length), p l[j] = false) ∨ (∃ t : Nat, ∃ ht : t < l.length, q = (t : Int) ∧ p l[t] = true ∧ ∀ j (hj : j < l.length), j < t → p l[j] = false)) ?_ ?_ () 0 (Nat.zero_le _) (fun j hj h => absurd h (by omega))
  · intro _ i hi hI ih
    have h1 : (i : Int) < (l.length : Int) := by omega
    have e0 := wrap_up hi (by omega)
    have hrd : rd_T77 l (i : Int) = l[i] := by simp [rd_T77, hi]
    by_cases c : p (rd_T77 l (i : Int)) = true
    · refine ⟨(i : Int), Ev.succ ?_, .inr ⟨i, hi, rfl, by rw [← hrd]; exact c, hI⟩⟩
      simp only [impl_IndexNode_156_b8.l0, h1, hp, c, Int.natCast_nonneg, if_true, Option.bind_some]; exact Ev.now _
    · have cb : p (rd_T77 l (i : Int)) = false := by simpa using c
      obtain ⟨q, hs, hR⟩ := ih () (fun j hj hji => if hh : j < i then hI j hj hh else by obtain rfl : j = i := (by omega); rw [← hrd]; exact cb)
      refine ⟨q, Ev.succ ?_, hR⟩
      simp only [impl_IndexNode_156_b8.l0, h1, hp, cb, e0, Int.natCast_nonneg, if_true, if_false, Option.bind_some, Bool.false_eq_true]; exact hs
  · intro _ hI
    refine ⟨-1, Ev.succ ?_, .inl ⟨rfl, fun j hj => hI j hj hj⟩⟩
    simp only [impl_IndexNode_156_b8.l0, Int.lt_irrefl, if_false]; exact Ev.now _
theorem ev_delete (p : S77 → Bool) (a b : Int) (hp : ∀ e : S77, impl_NodesFor_1.f e.f0 e.f1 e.f2 a b = some (p e)) (l : List S77) (hl : l.length ≤ 1048576) : Ev (fun k => impl_IndexNode_126.f k l a b) (l.filter (fun e => !p e)) := by
  obtain ⟨q, eq, hq⟩ := ev_first p a b hp l hl
  unfold impl_IndexNode_126.f
  refine Ev.bind eq ?_
  rcases hq with ⟨rfl, hn⟩ | ⟨t, ht, rfl, hpt, hn⟩
  · simp only [if_true, filter_none hn]; exact Ev.now _
  · have hne : ¬ ((t : Int) = -1) := by omega
    have e0 := wrap_up ht (by omega)
    simp only [hne, if_false, e0]
    refine ev_up (σ := List S77 × Nat) (fun s j k => impl_IndexNode_126.l0 k s.1 (s.2 : Int) (j : Int) a b) l.length (fun s j => Del p l s.1 s.2 j) (fun _ _ => l.filter (fun e => !p e)) ?_ ?_ (l, t) (t + 1) (by omega) (Del.start ht hpt hn)
    · rintro ⟨xs, i⟩ j hj hI ih
      have hlen := hI.1
      have hij := hI.2.1
      dsimp only at hlen hij hI ih ⊢
      have h1 : (j : Int) < (xs.length : Int) := by omega
      have hjx : j < xs.length := by omega
      have e1 := wrap_up hj (by omega)
      have hrd : rd_T77 xs (j : Int) = l[j] := by rw [← hI.get hjx hj]; simp [rd_T77, hjx]
      apply Ev.succ
      by_cases c : p (rd_T77 xs (j : Int)) = true
      · simp only [impl_IndexNode_126.l0, h1, hp, c, e1, Int.natCast_nonneg, if_true, Option.bind_some]
        exact ih (xs, i) (hI.skip hj (by rw [← hrd]; exact c))
      · have cb : p (rd_T77 xs (j : Int)) = false := by simpa using c
        have h2 : (i : Int) < (xs.length : Int) := by omega
        have e2 := wrap_up (show i < l.length by omega) (by omega)
        simp only [impl_IndexNode_126.l0, h1, h2, hp, cb, e1, e2, Int.natCast_nonneg, if_true, if_false, Option.bind_some, Bool.false_eq_true, Int.toNat_natCast]
        exact ih (xs.set i (rd_T77 xs (j : Int)), i + 1) (hI.keep hj (by rw [← hrd]; exact cb) hrd)
    · rintro ⟨xs, i⟩ hI
      have hlen := hI.1
      have hij := hI.2.1
      dsimp only at hlen hij hI ⊢
      have h1 : ¬ ((l.length : Int) < (xs.length : Int)) := by omega
      have h2 : (i : Int) ≤ (xs.length : Int) := by omega
      apply Ev.succ
      simp only [impl_IndexNode_126.l0, h1, h2, Int.natCast_nonneg, if_true, if_false, Int.toNat_natCast]
      refine Ev.some ?_
      rw [← hI.done]
      unfold clr
      rw [List.take_append_of_le_length (by rw [List.length_take]; omega), List.take_take, Nat.min_self]
theorem ev_filter (p : S77 → Bool) (a b : Int) (L : Nat → List S77 → Int → Option (List S77)) (l : List S77) (hl : l.length ≤ 1048576)
    (hstop : ∀ k ys, L (k + 1) ys (l.length : Int) = some ys)
    (hgo : ∀ k ys i (hi : i < l.length), ys.length ≤ 1048576 → L (k + 1) ys (i : Int) = if p l[i] = true then L k ys ((i + 1 : Nat) : Int) else L k (ys ++ [l[i]]) ((i + 1 : Nat) : Int)) : Ev (fun k => L k [] ((0 : Nat) : Int)) (l.filter (fun e => !p e)) := by
  refine ev_up (σ := List S77) (fun ys i k => L k ys (i : Int)) l.length (fun ys i => ys = (l.take i).filter (fun e => !p e)) (fun _ _ => l.filter (fun e => !p e)) ?_ ?_ [] 0 (Nat.zero_le _) (by simp)
  · rintro ys i hi rfl ih
    have hle : ((l.take i).filter (fun e => !p e)).length ≤ 1048576 := Nat.le_trans (List.length_filter_le ..) (by rw [List.length_take]; omega)
    apply Ev.succ
    simp only [hgo _ _ i hi hle]
    by_cases c : p l[i] = true
    · simp only [c, if_true]
      exact ih _ (by rw [take_succ_filter _ _ _ hi]; simp [c])
    · simp only [c, Bool.false_eq_true, if_false]
      exact ih _ (by rw [take_succ_filter _ _ _ hi]; simp [c])
  · rintro ys rfl
    apply Ev.succ
    simp only [hstop]
    exact Ev.some (by rw [List.take_length])
def inR (a b : Int) (e : S77) : Bool := decide (e.f0 ≤ b) && decide (a ≤ e.f1)
theorem inR_not (a b : Int) (l : List S77) : l.filter (fun e => !(decide (e.f1 < a) || decide (e.f0 > b))) = l.filter (inR a b) := by
  apply List.filter_congr
  intro e _
  unfold inR
  by_cases c : e.f1 < a <;> by_cases d : e.f0 > b <;> simp [c, d] <;> omega
theorem nodes_yes (l : List S77) (a b : Int) (hl : l.length ≤ 1048576) (h : Ix 0 l) (hab : a ≤ b) : Ev (fun k => spec_NodesFor.f k l a b) (l.filter (inR a b)) ∧ Ev (fun k => impl_NodesFor.f k l a b) (l.filter (inR a b)) := by
  obtain ⟨ok, eS, eI, hI⟩ := index_both l hl
  obtain rfl := hI.2 h
  constructor
  · refine ev_up (σ := List S77) (fun ys i k => spec_NodesFor.l0 k l a b ys (i : Int)) l.length (fun ys i => ys = (l.take i).filter (inR a b)) (fun _ _ => l.filter (inR a b)) ?_ ?_ [] 0 (Nat.zero_le _) (by simp)
    · rintro ys i hi rfl ih
      have h1 : (i : Int) < (l.length : Int) := by omega
      have e0 := wrap_up hi (by omega)
      have hrd := rdI l i hi
      have hle : ((l.take i).filter (inR a b)).length < 5864062014805 := by
        have := List.length_filter_le (inR a b) (l.take i)
        rw [List.length_take] at this; omega
      apply Ev.succ
      simp only [spec_NodesFor.l0, h1, if_true]
      refine Ev.bind eS ?_
      apply Ev.succ
      have hsuc := take_succ_filter (inR a b) l i hi
      by_cases c : l[i].f0 ≤ b
      · by_cases d : a ≤ l[i].f1
        · have hp : inR a b l[i] = true := by simp [inR, c, d]
          simp only [spec_NodesFor.j1, h1, hrd, c, d, hab, hle, e0, Int.natCast_nonneg, if_true]
          exact ih _ (by rw [hsuc, if_pos hp])
        · have hp : ¬ inR a b l[i] = true := by simp [inR, d]
          simp only [spec_NodesFor.j1, h1, hrd, c, d, e0, Int.natCast_nonneg, if_true, if_false]
          exact ih _ (by rw [hsuc, if_neg hp, List.append_nil])
      · have hp : ¬ inR a b l[i] = true := by simp [inR, c]
        simp only [spec_NodesFor.j1, h1, hrd, c, e0, Int.natCast_nonneg, if_true, if_false]
        exact ih _ (by rw [hsuc, if_neg hp, List.append_nil])
    · rintro ys rfl
      apply Ev.succ
      simp only [spec_NodesFor.l0, Int.lt_irrefl, if_false]
      apply Ev.succ
      simp only [spec_NodesFor.j1, Bool.false_eq_true, if_false]
      exact Ev.some (by rw [List.take_length])
  · unfold impl_NodesFor.f
    refine Ev.bind eI ?_
    have hcap : ([] : List S77).length + l.length < 5864062014805 := by simp; omega
    have hclone : impl_IndexNode_127.f l = some l := by simp only [impl_IndexNode_127.f, Option.bind_some, hcap, if_true, List.nil_append]
    have hgt : decide (a > b) = false := decide_eq_false (by omega)
    simp only [if_true, hgt]
    apply Ev.succ
    simp only [impl_NodesFor.j0, Bool.false_eq_true, if_false, hclone, Option.bind_some]
    rw [← inR_not a b l]
    exact Ev.bind (ev_delete (fun e => decide (e.f1 < a) || decide (e.f0 > b)) a b (by intro e; by_cases c : e.f1 < a <;> simp [impl_NodesFor_1.f, c]) l hl) (Ev.now _)
theorem nodes_no (l : List S77) (a b : Int) (hl : l.length ≤ 1048576) (h : ¬ Ix 0 l) : Ev (fun k => spec_NodesFor.f k l a b) [] := by
  obtain ⟨ok, eS, eI, hI⟩ := index_both l hl
  have hk : ok = false := by
    cases ok
    · rfl
    · exact absurd (hI.1 rfl) h
  subst hk
  have hj : Ev (fun k => spec_NodesFor.j1 k l a b [] 0 false) [] := Ev.succ (by simp only [spec_NodesFor.j1, Bool.false_eq_true, if_false]; exact Ev.now _)
  unfold spec_NodesFor.f
  apply Ev.succ
  by_cases h0 : (0 : Int) < (l.length : Int)
  · simp only [spec_NodesFor.l0, h0, if_true]
    exact Ev.bind eS hj
  · simp only [spec_NodesFor.l0, h0, if_false]; exact hj
def mk1 (a b : Int) (e : S77) : S77 := if e.f0 ≤ a ∧ a ≤ e.f1 then ⟨e.f0, e.f1, mx e.f2 b⟩ else e
theorem mk1_ok (a b : Int) (hb : 0 ≤ b ∧ b ≤ 999) (e : S77) (he : 0 ≤ e.f2 ∧ e.f2 ≤ 999) : (mk1 a b e).f0 = e.f0 ∧ (mk1 a b e).f1 = e.f1 ∧ (0 ≤ (mk1 a b e).f2 ∧ (mk1 a b e).f2 ≤ 999) := by
  unfold mk1
  split
  · refine ⟨rfl, rfl, ?_⟩
    show 0 ≤ mx e.f2 b ∧ mx e.f2 b ≤ 999
    unfold mx; omega
  · exact ⟨rfl, rfl, he⟩
theorem ix_mark {l : List S77} (a b : Int) (hb : 0 ≤ b ∧ b ≤ 999) (h : Ix 0 l) : Ix 0 (l.map (mk1 a b)) := ix_map _ (fun e he => mk1_ok a b hb e (ix_lo0 h e he).2.2) h
theorem map_set {g : S77 → S77} {l : List S77} {i : Nat} (hi : i < l.length) {v : S77} (hv : v = g l[i]) : ((l.take i).map g ++ l.drop i).set i v = (l.take (i + 1)).map g ++ l.drop (i + 1) := by
  have h1 : ((l.take i).map g).length = i := by rw [List.length_map, List.length_take]; omega
  rw [List.set_append_right _ _ (by omega), h1, Nat.sub_self, List.drop_eq_getElem_cons hi, List.set_cons_zero, List.take_succ_eq_append_getElem hi, List.map_append, hv]
  simp
theorem map_get {g : S77 → S77} {l : List S77} {i : Nat} (hi : i < l.length) : rd_T77 ((l.take i).map g ++ l.drop i) (i : Int) = l[i] := by
  have h1 : ((l.take i).map g).length = i := by rw [List.length_map, List.length_take]; omega
  have h2 : i < ((l.take i).map g ++ l.drop i).length := by rw [List.length_append, h1, List.length_drop]; omega
  rw [rdI _ i h2, List.getElem_append_right (by omega)]
  simp [Nat.min_eq_left (Nat.le_of_lt hi)]
theorem map_len {g : S77 → S77} {l : List S77} {i : Nat} : ((l.take i).map g ++ l.drop i).length = l.length := by
  rw [List.length_append, List.length_map, List.length_take, List.length_drop]; omega
theorem map_same {g : S77 → S77} {l : List S77} {i : Nat} (hi : i < l.length) (hv : g l[i] = l[i]) : (l.take i).map g ++ l.drop i = (l.take (i + 1)).map g ++ l.drop (i + 1) := by
  rw [List.take_succ_eq_append_getElem hi, List.map_append, List.drop_eq_getElem_cons hi]
  simp [hv]
theorem mark_spec (l : List S77) (a b : Int) (hl : l.length ≤ 1048576) (hb : 0 ≤ b ∧ b ≤ 999) (h : Ix 0 l) : Ev (fun k => spec_MarkIndex.f k l a b) (l.map (mk1 a b)) := by
  obtain ⟨ok, eS, eI, hI⟩ := index_both l hl
  obtain rfl := hI.2 h
  have hcap : ([] : List S77).length + l.length < 5864062014805 := by simp; omega
  have hcopy : spec_l16Copy.f l = some l := by simp only [spec_l16Copy.f, Option.bind_some, hcap, if_true, List.nil_append]
  have hi2 : spec_l1In.f b 0 999 = some true := by rw [l1In_eq]; simp [hb]
  unfold spec_MarkIndex.f
  simp only [hcopy, Option.bind_some]
  refine ev_up (σ := List S77) (fun ys i k => spec_MarkIndex.l0 k l a b ys (i : Int)) l.length (fun ys i => ys = (l.take i).map (mk1 a b) ++ l.drop i) (fun _ _ => l.map (mk1 a b)) ?_ ?_ l 0 (Nat.zero_le _) (by simp)
  · rintro ys i hi rfl ih
    have h1 : (i : Int) < ((((l.take i).map (mk1 a b) ++ l.drop i).length : Nat) : Int) := by rw [map_len]; omega
    have e0 := wrap_up hi (by omega)
    have hrd := map_get (g := mk1 a b) hi
    apply Ev.succ
    simp only [spec_MarkIndex.l0, h1, if_true]
    refine Ev.bind eS ?_
    simp only [if_true, hi2, Option.bind_some]
    apply Ev.succ
    simp only [spec_MarkIndex.j1, h1, hrd, l1In_eq, e0, Int.natCast_nonneg, Int.toNat_natCast, if_true, Option.bind_some]
    by_cases c : l[i].f0 ≤ a ∧ a ≤ l[i].f1
    · simp only [c.1, c.2, decide_true, Bool.and_self, if_true]
      exact ih _ (map_set hi (by unfold mk1; rw [if_pos c]))
    · have : (decide (l[i].f0 ≤ a) && decide (a ≤ l[i].f1)) = false := by
        rw [Bool.and_eq_false_iff, decide_eq_false_iff_not, decide_eq_false_iff_not]; omega
      simp only [this, Bool.false_eq_true, if_false]
      exact ih _ (map_same hi (by unfold mk1; rw [if_neg c]))
  · rintro ys rfl
    have h1 : ¬ ((l.length : Int) < ((((l.take l.length).map (mk1 a b) ++ l.drop l.length).length : Nat) : Int)) := by rw [map_len]; omega
    apply Ev.succ
    simp only [spec_MarkIndex.l0, h1, if_false]
    apply Ev.succ
    simp only [spec_MarkIndex.j1, Bool.false_eq_true, if_false]
    exact Ev.some (by simp)
theorem mark_no (l : List S77) (a b : Int) (hl : l.length ≤ 1048576) (h : ¬ Ix 0 l) : Ev (fun k => spec_MarkIndex.f k l a b) l := by
  obtain ⟨ok, eS, eI, hI⟩ := index_both l hl
  have hk : ok = false := by
    cases ok
    · rfl
    · exact absurd (hI.1 rfl) h
  subst hk
  have hcap : ([] : List S77).length + l.length < 5864062014805 := by simp; omega
  have hcopy : spec_l16Copy.f l = some l := by simp only [spec_l16Copy.f, Option.bind_some, hcap, if_true, List.nil_append]
  have hj : Ev (fun k => spec_MarkIndex.j1 k l a b l 0 false) l := Ev.succ (by simp only [spec_MarkIndex.j1, Bool.false_eq_true, if_false]; exact Ev.now _)
  unfold spec_MarkIndex.f
  simp only [hcopy, Option.bind_some]
  apply Ev.succ
  by_cases h0 : (0 : Int) < (l.length : Int)
  · simp only [spec_MarkIndex.l0, h0, if_true]
    refine Ev.bind eS ?_
    simp only [Bool.false_eq_true, if_false]; exact hj
  · simp only [spec_MarkIndex.l0, h0, if_false]; exact hj
theorem mark_impl (l : List S77) (a b : Int) (hl : l.length ≤ 1048576) (ha : 0 ≤ a ∧ a ≤ 5) (hb : 0 ≤ b ∧ b ≤ 999) (h : Ix 0 l) : Ev (fun k => impl_MarkIndex.f k l a b) (l.map (mk1 a b)) := by
  obtain ⟨ok, eS, eI, hI⟩ := index_both l hl
  obtain rfl := hI.2 h
  have hcap : ([] : List S77).length + l.length < 5864062014805 := by simp; omega
  have hclone : impl_IndexNode_127.f l = some l := by simp only [impl_IndexNode_127.f, Option.bind_some, hcap, if_true, List.nil_append]
  have hk1 : impl_isKey.f a = some true := by simp [impl_isKey.f, impl_in.f, ha.1, ha.2]
  have hi2 : impl_in.f b 0 999 = some true := by rw [in_eq]; simp [hb]
  unfold impl_MarkIndex.f
  simp only [hclone, Option.bind_some]
  refine Ev.bind eI ?_
  simp only [hk1, hi2, if_true, Option.bind_some, Bool.not_true]
  apply Ev.succ
  simp only [impl_MarkIndex.j0, Bool.false_eq_true, if_false]
  refine ev_up (σ := List S77) (fun ys i k => impl_MarkIndex.l0 k a b ys (l.length : Int) (i : Int)) l.length (fun ys i => ys = (l.take i).map (mk1 a b) ++ l.drop i) (fun _ _ => l.map (mk1 a b)) ?_ ?_ l 0 (Nat.zero_le _) (by simp)
  · rintro ys i hi rfl ih
    have h1 : (i : Int) < ((((l.take i).map (mk1 a b) ++ l.drop i).length : Nat) : Int) := by rw [map_len]; omega
    have h2 : (i : Int) < (l.length : Int) := by omega
    have e0 := wrap_up hi (by omega)
    have hrd := map_get (g := mk1 a b) hi
    apply Ev.succ
    simp only [impl_MarkIndex.l0, h1, h2, hrd, in_eq, e0, Int.natCast_nonneg, Int.toNat_natCast, if_true, Option.bind_some]
    by_cases c : l[i].f0 ≤ a ∧ a ≤ l[i].f1
    · simp only [c.1, c.2, decide_true, Bool.and_self, if_true]
      exact ih _ (map_set hi (by unfold mk1; rw [if_pos c]))
    · have : (decide (l[i].f0 ≤ a) && decide (a ≤ l[i].f1)) = false := by
        rw [Bool.and_eq_false_iff, decide_eq_false_iff_not, decide_eq_false_iff_not]; omega
      simp only [this, Bool.false_eq_true, if_false]
      exact ih _ (map_same hi (by unfold mk1; rw [if_neg c]))
  · rintro ys rfl
    apply Ev.succ
    simp only [impl_MarkIndex.l0, Int.lt_irrefl, if_false]
    exact Ev.some (by simp)
def newest (l : List S77) : Int := l.foldl (fun m e => mx m e.f2) 0
theorem fold_le : ∀ (l : List S77) (m : Int), m ≤ l.foldl (fun m e => mx m e.f2) m ∧ (∀ e ∈ l, e.f2 ≤ l.foldl (fun m e => mx m e.f2) m) ∧ (l.foldl (fun m e => mx m e.f2) m = m ∨ ∃ e ∈ l, l.foldl (fun m e => mx m e.f2) m = e.f2)
  | [], m => ⟨Int.le_refl _, fun e he => absurd he (by simp), .inl rfl⟩
  | x :: l, m => by
    obtain ⟨h1, h2, h3⟩ := fold_le l (mx m x.f2)
    simp only [List.foldl_cons]
    have hm : m ≤ mx m x.f2 ∧ x.f2 ≤ mx m x.f2 ∧ (mx m x.f2 = m ∨ mx m x.f2 = x.f2) := by unfold mx; omega
    refine ⟨by omega, fun e he => ?_, ?_⟩
    · rcases List.mem_cons.1 he with rfl | hm'
      · omega
      · exact h2 e hm'
    · rcases h3 with h3 | ⟨e, he, h3⟩
      · rcases hm.2.2 with q | q
        · exact .inl (by rw [h3, q])
        · exact .inr ⟨x, List.mem_cons_self .., by rw [h3, q]⟩
      · exact .inr ⟨e, List.mem_cons_of_mem _ he, h3⟩
theorem newest_ev (l : List S77) (hl : l.length ≤ 1048576) : Ev (fun k => spec_l16Newest.f k l) (newest l) := by
  refine ev_up (σ := Int) (fun s i k => spec_l16Newest.l0 k l s (i : Int)) l.length (fun s i => (l.drop i).foldl (fun m e => mx m e.f2) s = newest l) (fun _ _ => newest l) ?_ ?_ 0 0 (Nat.zero_le _) rfl
  · intro s i hi hI ih
    have h1 : (i : Int) < (l.length : Int) := by omega
    rw [List.drop_eq_getElem_cons hi, List.foldl_cons] at hI
    apply Ev.succ
    simp only [spec_l16Newest.l0, h1, rdI l i hi, wrap_up hi (by omega), Int.natCast_nonneg, if_true]
    exact ih _ hI
  · intro s hI
    rw [List.drop_length, List.foldl_nil] at hI
    apply Ev.succ
    simp only [spec_l16Newest.l0, Int.lt_irrefl, if_false]
    exact Ev.some hI
theorem first_new (l : List S77) (m : Int) (hl : l.length ≤ 1048576) : Ev (fun k => impl_IndexNode_161.f k l m) (decide (∃ e ∈ l, e.f2 > m)) := by
  obtain ⟨q, eq, hq⟩ := ev_firstM (fun e => decide (e.f2 > m)) m (fun e => rfl) l hl
  unfold impl_IndexNode_161.f
  refine Ev.bind eq (Ev.some ?_)
  rcases hq with ⟨rfl, hn⟩ | ⟨t, ht, rfl, hp, _⟩
  · have : ¬ ∃ e ∈ l, e.f2 > m := by
      rintro ⟨e, he, h⟩
      obtain ⟨j, hj, rfl⟩ := List.getElem_of_mem he
      have := hn j hj
      rw [decide_eq_false_iff_not] at this
      exact this h
    simp [this]
  · have : ∃ e ∈ l, e.f2 > m := ⟨_, List.getElem_mem ht, of_decide_eq_true hp⟩
    simp [this]
theorem fresh_yes (l seen : List S77) (a b : Int) (hl : l.length ≤ 1048576) (hs : seen.length ≤ 1048576) (h0 : ∀ e ∈ seen, 0 ≤ e.f2) (h : Ix 0 l) (ha : 0 ≤ a) (hab : a ≤ b) (hb : b ≤ 5) : Ev (fun k => spec_ScanIsFresh.f k l seen a b) (decide (newest (l.filter (inR a b)) ≤ newest seen)) ∧ Ev (fun k => impl_ScanIsFresh.f k l seen a b) (decide (newest (l.filter (inR a b)) ≤ newest seen)) := by
  obtain ⟨ok, eS, eI, hI⟩ := index_both l hl
  obtain rfl := hI.2 h
  obtain ⟨nS, nI⟩ := nodes_yes l a b hl h hab
  have hfl : (l.filter (inR a b)).length ≤ 1048576 := Nat.le_trans (List.length_filter_le ..) hl
  constructor
  · unfold spec_ScanIsFresh.f
    refine Ev.bind eS ?_
    have g1 : ¬ a > b := by omega
    have g2 : spec_l1In.f a 0 5 = some true := by rw [l1In_eq]; simp; omega
    have g3 : spec_l1In.f b 0 5 = some true := by rw [l1In_eq]; simp; omega
    simp only [if_true, if_neg g1, g2, g3, Option.bind_some, Bool.not_true]
    apply Ev.succ
    simp only [spec_ScanIsFresh.j0, Bool.false_eq_true, if_false]
    exact Ev.bind nS (Ev.bind (newest_ev _ hfl) (Ev.bind (newest_ev _ hs) (Ev.now _)))
  · unfold impl_ScanIsFresh.f
    refine Ev.bind eI ?_
    have g2 : impl_isKey.f a = some true := by unfold impl_isKey.f; rw [in_eq]; simp; omega
    have g3 : impl_isKey.f b = some true := by unfold impl_isKey.f; rw [in_eq]; simp; omega
    have g1 : decide (b < a) = false := decide_eq_false (by omega)
    simp only [if_true, g2, g3, g1, Option.bind_some]
    apply Ev.succ
    simp only [impl_ScanIsFresh.j0, Bool.false_eq_true, if_false]
    refine ev_up (σ := Int) (fun s i k => impl_ScanIsFresh.l0 k l a b seen (seen.length : Int) (i : Int) s) seen.length (fun s i => 0 ≤ s ∧ (seen.drop i).foldl (fun m e => mx m e.f2) s = newest seen ∧ (i = 0 → s = 0)) (fun _ _ => decide (newest (l.filter (inR a b)) ≤ newest seen)) ?_ ?_ 0 0 (Nat.zero_le _) ⟨Int.le_refl _, rfl, fun _ => rfl⟩
    · rintro s i hi ⟨hs0, hI, hz⟩ ih
      have h1 : (i : Int) < (seen.length : Int) := by omega
      rw [List.drop_eq_getElem_cons hi, List.foldl_cons] at hI
      have he := h0 _ (List.getElem_mem hi)
      apply Ev.succ
      by_cases c : (i : Int) = 0
      · have hi0 : i = 0 := by omega
        have hs' := hz hi0
        simp only [impl_ScanIsFresh.l0, h1, rdI seen i hi, wrap_up hi (by omega), Int.natCast_nonneg, if_true, if_pos c]
        refine ih _ ⟨he, ?_, fun h => by omega⟩
        rw [← hI]; congr 1; unfold mx; omega
      · by_cases d : seen[i].f2 > s
        · simp only [impl_ScanIsFresh.l0, h1, rdI seen i hi, wrap_up hi (by omega), Int.natCast_nonneg, if_true, if_neg c, if_pos d]
          refine ih _ ⟨he, ?_, fun h => by omega⟩
          rw [← hI]; congr 1; unfold mx; omega
        · simp only [impl_ScanIsFresh.l0, h1, rdI seen i hi, wrap_up hi (by omega), Int.natCast_nonneg, if_true, if_neg c, if_neg d]
          refine ih _ ⟨hs0, ?_, fun h => by omega⟩
          rw [← hI]; congr 1; unfold mx; omega
    · rintro s ⟨hs0, hI, _⟩
      rw [List.drop_length, List.foldl_nil] at hI
      apply Ev.succ
      simp only [impl_ScanIsFresh.l0, Int.lt_irrefl, if_false]
      refine Ev.bind nI (Ev.bind (first_new _ s hfl) (Ev.some ?_))
      obtain ⟨_, f2, f3⟩ := fold_le (l.filter (inR a b)) 0
      rw [← hI]
      by_cases q : ∃ e ∈ l.filter (inR a b), e.f2 > s
      · obtain ⟨e, he, hq⟩ := q
        have : ¬ newest (l.filter (inR a b)) ≤ s := by
          have := f2 e he
          show ¬ (l.filter (inR a b)).foldl (fun m e => mx m e.f2) 0 ≤ s
          omega
        rw [decide_eq_true (show ∃ e ∈ l.filter (inR a b), e.f2 > s from ⟨e, he, hq⟩), decide_eq_false this]; rfl
      · have : newest (l.filter (inR a b)) ≤ s := by
          show (l.filter (inR a b)).foldl (fun m e => mx m e.f2) 0 ≤ s
          rcases f3 with f3 | ⟨e, he, f3⟩
          · omega
          · rw [f3]; exact Int.not_lt.1 (fun h => q ⟨e, he, h⟩)
        rw [decide_eq_false q, decide_eq_true this]; rfl
theorem fresh_no (l seen : List S77) (a b : Int) (hl : l.length ≤ 1048576) (h : ¬ Ix 0 l) : Ev (fun k => spec_ScanIsFresh.f k l seen a b) false ∧ Ev (fun k => impl_ScanIsFresh.f k l seen a b) false := by
  obtain ⟨ok, eS, eI, hI⟩ := index_both l hl
  have hk : ok = false := by
    cases ok
    · rfl
    · exact absurd (hI.1 rfl) h
  subst hk
  constructor
  · unfold spec_ScanIsFresh.f
    refine Ev.bind eS ?_
    simp only [Bool.false_eq_true, if_false]
    exact Ev.succ (by simp only [spec_ScanIsFresh.j0, if_true]; exact Ev.now _)
  · unfold impl_ScanIsFresh.f
    refine Ev.bind eI ?_
    simp only [Bool.false_eq_true, if_false]
    exact Ev.succ (by simp only [impl_ScanIsFresh.j0, if_true]; exact Ev.now _)
theorem split_ok (l : List S77) (a : Int) (h : Ix 0 l) : ∃ r, Ev (fun k => spec_SplitNode.f k l a) r ∧ Ix 0 r.1 := by
  have hn := ix_n h
  obtain ⟨r, e, _, hr⟩ := both_SplitNode2 l a (by omega)
  refine ⟨r, e, ?_⟩
  rcases hr with rfl | ⟨t, ht, rfl, h0, h1, _⟩
  · exact h
  · exact ix_split a t ht (Int.le_refl _) h h0 h1
theorem index_ok (b : List Int) (i h : Int) (hb : b.length ≤ 1048576) (hi : 0 ≤ i ∧ i ≤ (b.length : Int)) : ∃ r, Ev (fun k => spec_l16Index.f k b i h) r ∧ Ix 0 r.1 ∧ (0 ≤ r.2.1 ∧ r.2.1 ≤ (b.length : Int)) := by
  have key : ∀ (m : Nat), m ≤ 5 → ∀ (xs : List S77) (i h : Int), (0 ≤ i ∧ i ≤ (b.length : Int)) → Ix 0 xs → ∃ r, Ev (fun k => spec_l16Index.l0 k xs (m : Int) b i h) r ∧ Ix 0 r.1 ∧ (0 ≤ r.2.1 ∧ r.2.1 ≤ (b.length : Int)) := by
    intro m
    induction m with
    | zero =>
      intro _ xs i h hi hx
      apply ex_succ
      simp only [spec_l16Index.l0]
      exact ex_ite (fun c => absurd c (by simp)) (fun _ => ex_now ⟨hx, hi⟩)
    | succ m ih =>
      intro hm xs i h hi hx
      have hw : wrap64 (((m + 1 : Nat) : Int) - 1) = (m : Int) := by unfold wrap64; omega
      apply ex_succ
      simp only [spec_l16Index.l0]
      rw [hw]
      refine ex_ite (fun _ => ?_) (fun c => absurd (by omega) c)
      obtain ⟨x, i1, h1, e1, _, hi1⟩ := below_ok b i h 7 hb hi (by decide) (by decide)
      refine ex_bind e1 ?_
      obtain ⟨r, es, hr⟩ := split_ok xs x hx
      refine ex_bindE es ?_
      obtain ⟨y, i2, h2, e2, _, hi2⟩ := below_ok b i1 h1 6 hb hi1 (by decide) (by decide)
      refine ex_bind e2 ?_
      obtain ⟨z, i3, h3, e3, hz, hi3⟩ := below_ok b i2 h2 9 hb hi2 (by decide) (by decide)
      refine ex_bind e3 ?_
      have hl := ix_n hr
      refine ex_bindE (mark_spec r.1 y z (by omega) (by omega) hr) ?_
      exact ih (by omega) _ i3 h3 hi3 (ix_mark y z (by omega) hr)
  unfold spec_l16Index.f spec_NewIndex.f
  refine ex_bind rfl ?_
  obtain ⟨x, i1, h1, e1, hx, hi1⟩ := below_ok b i h 5 hb hi (by decide) (by decide)
  refine ex_bind e1 ?_
  obtain ⟨m, rfl⟩ := Int.eq_ofNat_of_zero_le hx.1
  exact key m (by omega) _ i1 h1 hi1 (by simp [Ix])
theorem any_ok (b : List Int) (i h : Int) (hb : b.length ≤ 1048576) (hi : 0 ≤ i ∧ i ≤ (b.length : Int)) : ∃ r, Ev (fun k => spec_l16Any.f k b i h) r ∧ r.1.length ≤ 6 ∧ (0 ≤ r.2.1 ∧ r.2.1 ≤ (b.length : Int)) := by
  unfold spec_l16Any.f
  obtain ⟨⟨l, i1, h1⟩, e1, hl, hi1⟩ := index_ok b i h hb hi
  dsimp only at hl hi1
  have hn := ix_n hl
  have hp : 0 < l.length := by
    cases l with
    | nil => simp only [Ix] at hl; omega
    | cons x l => simp
  refine ex_bindE e1 ?_
  obtain ⟨x, i2, h2, e2, hx, hi2⟩ := below_ok b i1 h1 (l.length : Int) hb hi1 (by omega) (by omega)
  refine ex_bind e2 ?_
  obtain ⟨y, i3, h3, e3, hy, hi3⟩ := below_ok b i2 h2 14 hb hi2 (by decide) (by decide)
  refine ex_bind e3 ?_
  refine ex_ite (fun _ => ?_) (fun _ => ex_ite (fun _ => ?_) (fun _ => ex_ite (fun _ => ?_) (fun _ => ex_now ⟨by dsimp only; omega, hi3⟩)))
  · obtain ⟨z, i4, h4, e4, hi4⟩ := pick_ok b i3 h3 [0, 5, 6] hb hi3 (by decide) (by decide)
    refine ex_bind e4 ?_
    exact ex_ite (fun _ => ex_ite (fun _ => ex_now ⟨by simp; omega, hi4⟩) (fun c => absurd hx.2 c)) (fun c => absurd hx.1 c)
  · obtain ⟨z, i4, h4, e4, hi4⟩ := pick_ok b i3 h3 [(-1), 999, 1000] hb hi3 (by decide) (by decide)
    refine ex_bind e4 ?_
    exact ex_ite (fun _ => ex_ite (fun _ => ex_now ⟨by simp; omega, hi4⟩) (fun c => absurd hx.2 c)) (fun c => absurd hx.1 c)
  · exact ex_ite (fun _ => ex_now ⟨by simp; omega, hi3⟩) (fun c => absurd (show (1 : Int) ≤ (l.length : Int) by omega) c)
theorem drawsplit_ok (b : List Int) (hb : b.length ≤ 1048576) : ∃ r, Ev (fun k => spec_DrawSplitNode.f k b) r ∧ r.1.length ≤ 6 := by
  unfold spec_DrawSplitNode.f
  obtain ⟨h0, e0⟩ := new_ok b hb
  refine ex_bindE e0 ?_
  obtain ⟨⟨p, i1, h1⟩, e1, hp, hi1⟩ := any_ok b 0 h0 hb ⟨Int.le_refl _, by omega⟩
  dsimp only at hp hi1
  refine ex_bindE e1 ?_
  obtain ⟨x, i2, h2, e2, _, hi2⟩ := below_ok b i1 h1 8 hb hi1 (by decide) (by decide)
  exact ex_bind e2 (ex_now hp)
theorem drawscan_ok (b : List Int) (hb : b.length ≤ 1048576) : ∃ r, Ev (fun k => spec_DrawScanIsFresh.f k b) r ∧ r.1.length ≤ 6 ∧ r.2.1.length ≤ 6 ∧ (∀ e ∈ r.2.1, 0 ≤ e.f2) ∧ 0 ≤ r.2.2.1 ∧ r.2.2.1 ≤ r.2.2.2 ∧ r.2.2.2 ≤ 5 := by
  unfold spec_DrawScanIsFresh.f
  obtain ⟨h0, e0⟩ := new_ok b hb
  refine ex_bindE e0 ?_
  obtain ⟨⟨p, i1, h1⟩, e1, hp, hi1⟩ := any_ok b 0 h0 hb ⟨Int.le_refl _, by omega⟩
  dsimp only at hp hi1
  refine ex_bindE e1 ?_
  obtain ⟨x, i2, h2, e2, hx, hi2⟩ := below_ok b i1 h1 6 hb hi1 (by decide) (by decide)
  refine ex_bind e2 ?_
  dsimp only
  have hw : wrap64 (6 - x) = 6 - x := wrap_in (by omega) (by omega)
  rw [hw]
  obtain ⟨y, i3, h3, e3, hy, hi3⟩ := below_ok b i2 h2 (6 - x) hb hi2 (by omega) (by omega)
  refine ex_bind e3 ?_
  dsimp only
  have hw2 : wrap64 (x + y) = x + y := wrap_in (by omega) (by omega)
  rw [hw2]
  have hseen : ∃ q, Ev (fun k => spec_NodesFor.f k p x (x + y)) q ∧ q.length ≤ 6 ∧ ∀ e ∈ q, 0 ≤ e.f2 := by
    by_cases hI : Ix 0 p
    · refine ⟨_, (nodes_yes p x (x + y) (by omega) hI (by omega)).1, Nat.le_trans (List.length_filter_le ..) hp, fun e he => (ix_lo0 hI e (List.mem_filter.1 he).1).2.2.1⟩
    · exact ⟨[], nodes_no p x (x + y) (by omega) hI, by simp, fun e he => absurd he (by simp)⟩
  obtain ⟨q, eq, hq, hq0⟩ := hseen
  refine ex_bindE eq ?_
  obtain ⟨z, i4, h4, e4, hi4⟩ := once_ok b i3 h3 2 hb hi3 (by decide) (by decide)
  refine ex_bind e4 ?_
  refine ex_ite (fun _ => ?_) (fun _ => ex_now ⟨hp, hq, hq0, hx.1, by dsimp only; omega, by dsimp only; omega⟩)
  obtain ⟨u, i5, h5, e5, hu, hi5⟩ := below_ok b i4 h4 6 hb hi4 (by decide) (by decide)
  refine ex_bind e5 ?_
  obtain ⟨t, i6, h6, e6, ht, hi6⟩ := below_ok b i5 h5 12 hb hi5 (by decide) (by decide)
  refine ex_bind e6 ?_
  by_cases hI : Ix 0 p
  · exact ex_bindE (mark_spec p u t (by omega) (by omega) hI) (ex_now ⟨by simp; omega, hq, hq0, hx.1, by dsimp only; omega, by dsimp only; omega⟩)
  · exact ex_bindE (mark_no p u t (by omega) hI) (ex_now ⟨hp, hq, hq0, hx.1, by dsimp only; omega, by dsimp only; omega⟩)
theorem second (b : List Int) (hb : b.length ≤ 1048576) : Ev (fun k => laws_FnIndexes.j2 k b false) true := by
  obtain ⟨⟨l, seen, lo, hi⟩, e1, hl, hs, h0, hlo, hlh, hhi⟩ := drawscan_ok b hb
  dsimp only at hl hs h0 hlo hlh hhi
  apply Ev.succ
  simp only [laws_FnIndexes.j2, Bool.false_eq_true, if_false]
  refine Ev.bind e1 ?_
  obtain ⟨ok, eS, eI, hI⟩ := index_both l (by omega)
  by_cases h : Ix 0 l
  rotate_left 1
  · obtain ⟨f1, f2⟩ := fresh_no l seen lo hi (by omega) h
    have hk : ok = false := by
      cases ok
      · rfl
      · exact absurd (hI.1 rfl) h
    subst hk
    refine Ev.bind f2 (Ev.bind f1 ?_)
    simp only [bne_self_eq_false, Bool.false_eq_true, if_false]
    refine Ev.bind eS ?_
    simp only [Bool.false_eq_true, if_false]
    exact Ev.now _
  obtain rfl := hI.2 h
  obtain ⟨f1, f2⟩ := fresh_yes l seen lo hi (by omega) (by omega) h0 h hlo hlh hhi
  refine Ev.bind f2 (Ev.bind f1 ?_)
  simp only [bne_self_eq_false, Bool.false_eq_true, if_false]
  refine Ev.bind eS ?_
  simp only [if_true]
  obtain ⟨n1, n2⟩ := nodes_yes l lo hi (by omega) h hlh
  refine Ev.bind n1 (Ev.bind n2 ?_)
  simp only [if_true]
  have hnl : (l.filter (inR lo hi)).length ≤ 6 := Nat.le_trans (List.length_filter_le ..) hl
  have hn0 : ∀ e ∈ l.filter (inR lo hi), 0 ≤ e.f2 ∧ e.f2 ≤ 999 := fun e he => (ix_lo0 h e (List.mem_filter.1 he).1).2.2
  obtain ⟨_, g2⟩ := fresh_yes l (l.filter (inR lo hi)) lo hi (by omega) (by omega) (fun e he => (hn0 e he).1) h hlo hlh hhi
  refine Ev.bind g2 ?_
  simp only [Int.le_refl, decide_true, Bool.not_true]
  apply Ev.succ
  simp only [laws_FnIndexes.j3, Bool.false_eq_true, if_false]
  refine ev_up (σ := Int) (fun s i k => laws_FnIndexes.l1 k l lo hi (l.filter (inR lo hi)) s (i : Int)) (l.filter (inR lo hi)).length (fun s i => ((l.filter (inR lo hi)).drop i).foldl (fun m e => mx m e.f2) s = newest (l.filter (inR lo hi))) (fun _ _ => true) ?_ ?_ 0 0 (Nat.zero_le _) rfl
  · intro s i hi' hI ih
    have h1 : (i : Int) < ((l.filter (inR lo hi)).length : Int) := by omega
    rw [List.drop_eq_getElem_cons hi', List.foldl_cons] at hI
    apply Ev.succ
    simp only [laws_FnIndexes.l1, h1, rdI _ i hi', wrap_up hi' (by omega), Int.natCast_nonneg, if_true]
    exact ih _ hI
  · intro s hI
    rw [List.drop_length, List.foldl_nil] at hI
    obtain ⟨k1, k2, k3⟩ := fold_le (l.filter (inR lo hi)) 0
    have hI' : s = (l.filter (inR lo hi)).foldl (fun m e => mx m e.f2) 0 := hI
    apply Ev.succ
    simp only [laws_FnIndexes.l1, Int.lt_irrefl, if_false]
    by_cases c : s = 999
    · simp only [if_pos c]; exact Ev.now _
    simp only [if_neg c]
    have hs9 : 0 ≤ s ∧ s ≤ 998 := by
      rcases k3 with k3 | ⟨e, he, k3⟩
      · omega
      · have := hn0 e he; omega
    have hw : wrap64 (s + 1) = s + 1 := wrap_in (by omega) (by omega)
    rw [hw]
    have hm := ix_mark lo (s + 1) (by omega) h
    obtain ⟨_, z2⟩ := fresh_yes (l.map (mk1 lo (s + 1))) (l.filter (inR lo hi)) lo hi (by simp; omega) (by omega) (fun e he => (hn0 e he).1) hm hlo hlh hhi
    refine Ev.bind (mark_impl l lo (s + 1) (by omega) (by omega) (by omega) h) (Ev.bind z2 (Ev.some ?_))
    obtain ⟨e, he, he0, he1⟩ := ix_cover lo h hlo (by omega)
    have hmem : mk1 lo (s + 1) e ∈ (l.map (mk1 lo (s + 1))).filter (inR lo hi) := by
      rw [List.mem_filter]
      refine ⟨List.mem_map.2 ⟨e, he, rfl⟩, ?_⟩
      obtain ⟨q0, q1, _⟩ := mk1_ok lo (s + 1) (by omega) e (ix_lo0 h e he).2.2
      unfold inR
      rw [q0, q1]
      simp only [Bool.and_eq_true, decide_eq_true_eq]; omega
    obtain ⟨_, w2, _⟩ := fold_le ((l.map (mk1 lo (s + 1))).filter (inR lo hi)) 0
    have hge := w2 _ hmem
    have hst : (mk1 lo (s + 1) e).f2 ≥ s + 1 := by
      unfold mk1
      rw [if_pos ⟨he0, he1⟩]
      show mx e.f2 (s + 1) ≥ s + 1
      unfold mx; omega
    have : ¬ newest ((l.map (mk1 lo (s + 1))).filter (inR lo hi)) ≤ newest (l.filter (inR lo hi)) := by
      show ¬ ((l.map (mk1 lo (s + 1))).filter (inR lo hi)).foldl (fun m e => mx m e.f2) 0 ≤ (l.filter (inR lo hi)).foldl (fun m e => mx m e.f2) 0
      omega
    rw [decide_eq_false this]; rfl
theorem FnIndexes : laws_FnIndexes.Pure := by
  intro b _ _ _
  apply Ev.rounds
  unfold laws_FnIndexes.f laws_big.f
  simp only [Option.bind_some]
  by_cases h : (b.length : Int) > 1048576
  · simp only [h, decide_true, if_true]; exact Ev.now _
  have hb : b.length ≤ 1048576 := by omega
  simp only [h, decide_false, Bool.false_eq_true, if_false]
  obtain ⟨⟨l, a⟩, e1, hl⟩ := drawsplit_ok b hb
  dsimp only at hl
  obtain ⟨⟨x, is⟩, e2, e3, hx⟩ := both_SplitNode2 l a (by omega)
  obtain ⟨v, e4, e5, _⟩ := index_both l (by omega)
  refine Ev.bind e1 (Ev.bind e3 (Ev.bind e2 ?_))
  simp only [bne_self_eq_false, Bool.false_eq_true, if_false, if_true]
  refine Ev.bind e5 (Ev.bind e4 ?_)
  simp only [bne_self_eq_false]
  apply Ev.succ
  simp only [laws_FnIndexes.j0, Bool.false_eq_true, if_false]
  have hxl : x.length ≤ 1048576 := by
    rcases hx with hx | ⟨t, ht, hx, _⟩
    · have := congrArg Prod.fst hx
      dsimp only at this
      rw [this]; omega
    · have := congrArg Prod.fst hx
      dsimp only at this
      rw [this]; simp; omega
  refine ev_up (σ := Unit) (fun _ i k => laws_FnIndexes.l0 k b l x is x (i : Int)) x.length (fun _ _ => True) (fun _ _ => true) ?_ ?_ () 0 (Nat.zero_le _) trivial
  · intro _ i hi _ ih
    have h1 : (i : Int) < (x.length : Int) := by omega
    apply Ev.succ
    simp only [laws_FnIndexes.l0, h1, Int.natCast_nonneg, if_true, beq_self_eq_true, Bool.not_true, Bool.or_false, Bool.false_eq_true, if_false, wrap_up hi (by omega)]
    exact ih () trivial
  intro _ _
  apply Ev.succ
  simp only [laws_FnIndexes.l0, Int.lt_irrefl, if_false]
  rcases hx with hx | ⟨t, ht, hx, h0, h1, hI⟩
  · obtain ⟨rfl, rfl⟩ := Prod.mk.inj hx
    simp only [Bool.false_eq_true, if_false]
    exact second b hb
  · obtain ⟨rfl, rfl⟩ := Prod.mk.inj hx
    have hIx := ix_split a t ht (Int.le_refl _) hI h0 h1
    obtain ⟨ok, _, eI, hok⟩ := index_both _ hxl
    obtain rfl := hok.2 hIx
    have hw : wrap64 ((l.length : Int) + 1) = (l.length : Int) + 1 := wrap_in (by omega) (by omega)
    have hlen : (((l.take t ++ [(⟨l[t].f0, wrap64 (a - 1), l[t].f2⟩ : S77), (⟨a, l[t].f1, l[t].f2⟩ : S77)] ++ l.drop (t + 1)).length : Nat) : Int) = wrap64 ((l.length : Int) + 1) := by
      rw [hw]; simp; omega
    simp only [hlen, if_true]
    refine Ev.bind eI ?_
    simp only [Bool.not_true]
    exact second b hb

end Go.Proofs.Ytpiaeinfneoioaa.Pure
