/- Small words for the plain statements: rounds that are enough, loops that count up, two loops that keep step. No condition. -/
import Derived.Test.YtdgknikgfjhohaaWWordsU
import Derived.Test.YtdgknikgfjhohaaWLastU
namespace Go.Proofs.Ytdgknikgfjhohaa.Plain
open Go.RowKit Go.Proofs.YtdgknikgfjhohaaW.PrintWords Go.Proofs.YtdgknikgfjhohaaW.PrintLast
set_option linter.unusedVariables false

theorem Ev.succ {α : Type} {g : Nat → Option α} {r : α} (h : Ev (fun k => g (k + 1)) r) : Ev g r := by
  obtain ⟨K, h⟩ := h
  refine ⟨K + 1, fun k hk => ?_⟩
  obtain ⟨m, rfl⟩ : ∃ m, k = m + 1 := ⟨k - 1, by omega⟩
  exact h m (by omega)
theorem Ev.some {α : Type} {r r' : α} (h : r = r') : Ev (fun _ => Option.some r) r' := h ▸ Ev.now r
theorem Ev.uniq {α : Type} {g : Nat → Option α} {r r' : α} (h : Ev g r) (h' : Ev g r') : r = r' := by
  obtain ⟨K, h⟩ := h
  obtain ⟨K', h'⟩ := h'
  have a := h (max K K') (by omega)
  rw [h' (max K K') (by omega)] at a
  exact (Option.some.inj a).symm
theorem wrap_in {i : Int} (h : -9223372036854775808 ≤ i) (h' : i ≤ 9223372036854775807) : wrap64 i = i := by unfold wrap64; omega
theorem wrap_up {i n : Nat} (h : i < n) (hn : n ≤ 9223372036854775807) : wrap64 ((i : Int) + 1) = ((i + 1 : Nat) : Int) := by unfold wrap64; omega
theorem wrap_down {i : Nat} (h : 0 < i) (hn : i ≤ 9223372036854775807) : wrap64 ((i : Int) - 1) = ((i - 1 : Nat) : Int) := by unfold wrap64; omega

theorem ev_up {σ ρ : Type} (L : σ → Nat → Nat → Option ρ) (n : Nat) (I : σ → Nat → Prop) (R : σ → Nat → ρ)
    (hstep : ∀ s i, i < n → I s i → (∀ s', I s' (i + 1) → Ev (L s' (i + 1)) (R s' (i + 1))) → Ev (L s i) (R s i))
    (hend : ∀ s, I s n → Ev (L s n) (R s n)) : ∀ s i, i ≤ n → I s i → Ev (L s i) (R s i) := by
  have key : ∀ d s i, n - i = d → i ≤ n → I s i → Ev (L s i) (R s i) := by
    intro d
    induction d with
    | zero => intro s i hd hi hI; obtain rfl : i = n := by omega
              exact hend s hI
    | succ d ih => intro s i hd hi hI; exact hstep s i (by omega) hI (fun s' h' => ih s' (i + 1) (by omega) (by omega) h')
  exact fun s i hi hI => key _ s i rfl hi hI
theorem ev_to {σ ρ : Type} (L : σ → Nat → Nat → Option ρ) (n : Nat) (I : σ → Nat → Prop) (R : ρ → Prop)
    (hstep : ∀ s i, i < n → I s i → (∀ s', I s' (i + 1) → ∃ r, Ev (L s' (i + 1)) r ∧ R r) → ∃ r, Ev (L s i) r ∧ R r)
    (hend : ∀ s, I s n → ∃ r, Ev (L s n) r ∧ R r) : ∀ s i, i ≤ n → I s i → ∃ r, Ev (L s i) r ∧ R r := by
  have key : ∀ d s i, n - i = d → i ≤ n → I s i → ∃ r, Ev (L s i) r ∧ R r := by
    intro d
    induction d with
    | zero => intro s i hd hi hI; obtain rfl : i = n := by omega
              exact hend s hI
    | succ d ih => intro s i hd hi hI; exact hstep s i (by omega) hI (fun s' h' => ih s' (i + 1) (by omega) (by omega) h')
  exact fun s i hi hI => key _ s i rfl hi hI
theorem ev_both {σ τ ρ : Type} (L : σ → Nat → Nat → Option ρ) (M : τ → Nat → Nat → Option ρ) (n : Nat) (I : σ → τ → Nat → Prop) (R : ρ → Prop)
    (hstep : ∀ s t i, i < n → I s t i → (∀ s' t', I s' t' (i + 1) → ∃ r, Ev (L s' (i + 1)) r ∧ Ev (M t' (i + 1)) r ∧ R r) → ∃ r, Ev (L s i) r ∧ Ev (M t i) r ∧ R r)
    (hend : ∀ s t, I s t n → ∃ r, Ev (L s n) r ∧ Ev (M t n) r ∧ R r) : ∀ s t i, i ≤ n → I s t i → ∃ r, Ev (L s i) r ∧ Ev (M t i) r ∧ R r := by
  have key : ∀ d s t i, n - i = d → i ≤ n → I s t i → ∃ r, Ev (L s i) r ∧ Ev (M t i) r ∧ R r := by
    intro d
    induction d with
    | zero => intro s t i hd hi hI; obtain rfl : i = n := by omega
              exact hend s t hI
    | succ d ih => intro s t i hd hi hI; exact hstep s t i (by omega) hI (fun s' t' h' => ih s' t' (i + 1) (by omega) (by omega) h')
  exact fun s t i hi hI => key _ s t i rfl hi hI
theorem ev_two {σ τ ρ π : Type} (L : σ → Nat → Nat → Option ρ) (M : τ → Nat → Nat → Option π) (n : Nat) (I : σ → τ → Nat → Prop) (R : ρ → π → Prop)
    (hstep : ∀ s t i, i < n → I s t i → (∀ s' t', I s' t' (i + 1) → ∃ r q, Ev (L s' (i + 1)) r ∧ Ev (M t' (i + 1)) q ∧ R r q) → ∃ r q, Ev (L s i) r ∧ Ev (M t i) q ∧ R r q)
    (hend : ∀ s t, I s t n → ∃ r q, Ev (L s n) r ∧ Ev (M t n) q ∧ R r q) : ∀ s t i, i ≤ n → I s t i → ∃ r q, Ev (L s i) r ∧ Ev (M t i) q ∧ R r q := by
  have key : ∀ d s t i, n - i = d → i ≤ n → I s t i → ∃ r q, Ev (L s i) r ∧ Ev (M t i) q ∧ R r q := by
    intro d
    induction d with
    | zero => intro s t i hd hi hI; obtain rfl : i = n := by omega
              exact hend s t hI
    | succ d ih => intro s t i hd hi hI; exact hstep s t i (by omega) hI (fun s' t' h' => ih s' t' (i + 1) (by omega) (by omega) h')
  exact fun s t i hi hI => key _ s t i rfl hi hI
theorem both_now {ρ : Type} {g f : Nat → Option ρ} {R : ρ → Prop} (r : ρ) (h : Ev g r) (h' : Ev f r) (hR : R r) : ∃ r, Ev g r ∧ Ev f r ∧ R r := ⟨r, h, h', hR⟩
theorem both_on {ρ : Type} {g f g' f' : Nat → Option ρ} {R : ρ → Prop} (h : ∃ r, Ev g' r ∧ Ev f' r ∧ R r) (hg : ∀ r, Ev g' r → Ev g r) (hf : ∀ r, Ev f' r → Ev f r) : ∃ r, Ev g r ∧ Ev f r ∧ R r := by
  obtain ⟨r, h1, h2, h3⟩ := h
  exact ⟨r, hg r h1, hf r h2, h3⟩

theorem getD_lt {α : Type} (xs : List α) (i : Nat) (d : α) (h : i < xs.length) : xs.getD i d = xs[i] := by
  rw [List.getD_eq_getElem?_getD, List.getElem?_eq_getElem h]; rfl
def Filled {β : Type} (zs ys : List β) (i : Nat) : Prop := ys.length = zs.length ∧ ys.take i = zs.take i
theorem Filled.start {β : Type} (zs ys : List β) (h : ys.length = zs.length) : Filled zs ys 0 := ⟨h, by simp⟩
theorem Filled.done {β : Type} {zs ys : List β} (h : Filled zs ys zs.length) : ys = zs := by
  have := h.2
  rwa [List.take_of_length_le (Nat.le_of_eq h.1), List.take_length] at this
theorem Filled.step {β : Type} {zs ys : List β} {i : Nat} (h : Filled zs ys i) (hi : i < zs.length) {v : β} (hv : v = zs[i]) : Filled zs (ys.set i v) (i + 1) := by
  subst hv
  refine ⟨by rw [List.length_set]; exact h.1, ?_⟩
  have hl : i < ys.length := by have := h.1; omega
  rw [List.take_succ_eq_append_getElem (by rw [List.length_set]; exact hl), List.take_succ_eq_append_getElem hi, List.take_set_of_le (Nat.le_refl _), h.2]
  simp
def markL {β : Type} (mkE : Int → β) (c : Nat) : Nat → Int → List β
  | 0, _ => []
  | n + 1, a => mkE a :: markL mkE c n (a + c)
theorem markL_length {β : Type} (mkE : Int → β) (c : Nat) : ∀ n a, (markL mkE c n a).length = n
  | 0, _ => rfl
  | n + 1, a => by simp [markL, markL_length mkE c n]
theorem markL_get {β : Type} (mkE : Int → β) (c : Nat) : ∀ n a i (h : i < (markL mkE c n a).length), (markL mkE c n a)[i] = mkE (a + c * i)
  | 0, _, i, h => absurd h (by simp [markL])
  | n + 1, a, 0, _ => by simp [markL]
  | n + 1, a, i + 1, h => by
    have := markL_get mkE c n (a + c) i (by simpa [markL] using h)
    simp only [markL, List.getElem_cons_succ, this]
    congr 1
    rw [Int.natCast_succ, Int.mul_add, Int.mul_one]; omega
def Del {β : Type} (p : β → Bool) (l xs : List β) (i j : Nat) : Prop := xs.length = l.length ∧ i ≤ j ∧ xs.take i = (l.take j).filter (fun e => !p e) ∧ xs.drop j = l.drop j
theorem take_succ_filter {β : Type} (q : β → Bool) (l : List β) (j : Nat) (h : j < l.length) : (l.take (j + 1)).filter q = (l.take j).filter q ++ (if q l[j] = true then [l[j]] else []) := by
  rw [List.take_succ_eq_append_getElem h, List.filter_append]
  by_cases c : q l[j] = true <;> simp [c]
theorem Del.get {β : Type} {p : β → Bool} {l xs : List β} {i j : Nat} (h : Del p l xs i j) (hj : j < xs.length) (hj' : j < l.length) : xs[j] = l[j] := by
  have h1 : (xs.drop j)[0]? = (l.drop j)[0]? := by rw [h.2.2.2]
  simpa [List.getElem?_drop, hj, hj'] using h1
theorem drop_step {β : Type} {xs l : List β} {j : Nat} (h : xs.drop j = l.drop j) : xs.drop (j + 1) = l.drop (j + 1) := by
  rw [← List.drop_drop, h, List.drop_drop]
theorem Del.skip {β : Type} {p : β → Bool} {l xs : List β} {i j : Nat} (h : Del p l xs i j) (hj : j < l.length) (hp : p l[j] = true) : Del p l xs i (j + 1) := by
  refine ⟨h.1, by have := h.2.1; omega, ?_, drop_step h.2.2.2⟩
  rw [take_succ_filter _ _ _ hj, h.2.2.1]; simp [hp]
theorem Del.keep {β : Type} {p : β → Bool} {l xs : List β} {i j : Nat} (h : Del p l xs i j) (hj : j < l.length) (hp : p l[j] = false) {v : β} (hv : v = l[j]) : Del p l (xs.set i v) (i + 1) (j + 1) := by
  subst hv
  have hi : i < xs.length := by have := h.1; have := h.2.1; omega
  refine ⟨by rw [List.length_set]; exact h.1, by have := h.2.1; omega, ?_, ?_⟩
  · rw [take_succ_filter _ _ _ hj, ← h.2.2.1, List.take_succ_eq_append_getElem (by rw [List.length_set]; exact hi), List.take_set_of_le (Nat.le_refl _)]
    simp [hp]
  · rw [List.drop_set_of_lt (by have := h.2.1; omega)]; exact drop_step h.2.2.2
theorem Del.start {β : Type} {p : β → Bool} {l : List β} {t : Nat} (ht : t < l.length) (hp : p l[t] = true) (h : ∀ q (hq : q < l.length), q < t → p l[q] = false) : Del p l l t (t + 1) := by
  refine ⟨rfl, by omega, ?_, rfl⟩
  rw [take_succ_filter _ _ _ ht]
  have : (l.take t).filter (fun e => !p e) = l.take t := by
    rw [List.filter_eq_self]
    intro e he
    obtain ⟨q, hq, rfl⟩ := List.getElem_of_mem he
    rw [List.length_take] at hq
    rw [List.getElem_take]
    simp [h q (by omega) (by omega)]
  rw [this]; simp [hp]
theorem Del.done {β : Type} {p : β → Bool} {l xs : List β} {i : Nat} (h : Del p l xs i l.length) : xs.take i = l.filter (fun e => !p e) := by
  rw [h.2.2.1, List.take_length]
theorem filter_none {β : Type} {p : β → Bool} {l : List β} (h : ∀ q (hq : q < l.length), p l[q] = false) : l.filter (fun e => !p e) = l := by
  rw [List.filter_eq_self]
  intro e he
  obtain ⟨q, hq, rfl⟩ := List.getElem_of_mem he
  simp [h q hq]
end Go.Proofs.Ytdgknikgfjhohaa.Plain
