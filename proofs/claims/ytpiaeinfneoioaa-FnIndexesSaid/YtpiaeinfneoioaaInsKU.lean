/- Words for slices.Insert over rows of plain structs: a copy into a row of the call's own, told by the row's cells; the cells behind both copies. Conditions stand at each. -/
import Derived.Test.YtpiaeinfneoioaaWWordsU
import Derived.Test.YtpiaeinfneoioaaWLastU
import Derived.Laws.CopyRow
namespace Go.Proofs.YtpiaeinfneoioaaW.PrintWords
open Go.RowKit Go.Proofs.YtpiaeinfneoioaaW.PrintLast
set_option linter.unusedVariables false

theorem run_copy_rowN {P : Program} (w : World) (dT sT ty elem : TypeId) (s g o dLen dCap : Nat) (a : Addr) (sLen sCap : Nat) (cur : Array Value) (t : TypeId) (cs : List Value)
    (hu : P.underlying dT = some (.slice elem)) (hs : (P.info? elem).map (·.size) = some s)
    (hg : w.heap[g]? = some (.cells cur t (0, 0))) (hn : cs.length = Nat.min sLen dLen * s)
    (hsrc : ∀ j v, cs[j]? = some v → w.cell? (a.add j) = some v) (hfit : o + cs.length ≤ cur.size) (h1 : ∀ v ∈ cs, v.oneCell' = true) :
    (Builtin.copy_ #[dT, sT] ty #[.slice (some ⟨g, o, none⟩) dLen dCap, .slice (some a) sLen sCap]).run P w =
      .ok (goInt (Nat.min sLen dLen)) (w.setRow g (cur.toList.take o ++ cs ++ cur.toList.drop (o + cs.length)).toArray) := by
  have hl := run_loadCells_list (P := P) w a cs hsrc
  have hst := run_storeCells_at P g o t cs 0 cur w hg (by simpa using hfit) h1
  cases hq : P.info? elem with
  | none => simp [hq] at hs
  | some i =>
    have hi : i.size = s := by simpa [hq] using hs
    simp [Builtin.copy_, run_underlying hu, Builtin.lenOf, Builtin.firstCells, sizeOf, typeInfo, hq, hi, ← hn, hl, hst]

theorem shift_cells (cur new : List Value) (a M L : Nat) (ha : a ≤ L) (hL : L + M ≤ cur.length) (h2 : new.length = M) :
    ((cur.take (a + M) ++ (cur.take L).drop a ++ cur.drop (a + M + ((cur.take L).drop a).length)).take a ++ new ++
      (cur.take (a + M) ++ (cur.take L).drop a ++ cur.drop (a + M + ((cur.take L).drop a).length)).drop (a + new.length)) =
    (cur.take L).take a ++ new ++ (cur.take L).drop a ++ cur.drop (L + M) := by
  have e1 : (cur.take (a + M)).length = a + M := by rw [List.length_take]; omega
  have e2 : ((cur.take L).drop a).length = L - a := by rw [List.length_drop, List.length_take]; omega
  rw [h2, e2, show a + M + (L - a) = L + M by omega, List.append_assoc (cur.take (a + M)), List.take_append_of_le_length (by omega), List.take_take, Nat.min_eq_left (by omega),
    List.drop_left' e1, List.take_take, Nat.min_eq_left ha, List.append_assoc, List.append_assoc, List.append_assoc]
theorem grow_cells (row cur new : List Value) (a M L : Nat) (ha : a ≤ L) (hL : L + M ≤ row.length) (hc : L ≤ cur.length) (h2 : new.length = M) (hr : row.take a = cur.take a) :
    ((row.take a ++ new ++ row.drop (a + new.length)).take (a + M) ++ (cur.take L).drop a ++
      (row.take a ++ new ++ row.drop (a + new.length)).drop (a + M + ((cur.take L).drop a).length)) =
    (cur.take L).take a ++ new ++ (cur.take L).drop a ++ row.drop (L + M) := by
  have e1 : (row.take a ++ new).length = a + M := by rw [List.length_append, List.length_take, h2]; omega
  have e2 : ((cur.take L).drop a).length = L - a := by rw [List.length_drop, List.length_take]; omega
  rw [h2, e2, List.take_left' e1, show a + M + (L - a) = a + M + (L - a) from rfl, ← List.drop_drop, List.drop_left' e1, List.drop_drop, show a + M + (L - a) = L + M by omega, hr, List.take_take, Nat.min_eq_left ha]

theorem reps_one {α : Type} {R : α → List Value → Prop} {size : Nat} {ps : List α} {cs : List Value} (h : Reps R size ps cs) (hR : ∀ p c, R p c → ∀ u ∈ c, u.oneCell' = true) : ∀ u ∈ cs, u.oneCell' = true := by
  intro u hu
  obtain ⟨q, hq, rfl⟩ := List.getElem_of_mem hu
  have hl := h.1
  have hs : 0 < size := by
    rcases Nat.eq_zero_or_pos size with h0 | h0
    · rw [h0, Nat.mul_zero] at hl; omega
    · exact h0
  have hj : q / size < ps.length := (Nat.div_lt_iff_lt_mul hs).2 (by rw [← hl]; exact hq)
  refine hR _ _ (h.2 (q / size) _ (List.getElem?_eq_getElem hj)) _ ?_
  rw [List.mem_iff_getElem?]
  exact ⟨q % size, by rw [List.getElem?_take, if_pos (Nat.mod_lt _ hs), List.getElem?_drop, Nat.div_add_mod', List.getElem?_eq_getElem hq]⟩
namespace Kd
section
variable {α : Type} {d : Kd α} {e base : Nat} {ok ok' : Nat → Prop} {w w1 : World} {v : Value} {xs : List α}
theorem M_any (hE : d.E = []) {x : α} {cs : List Value} (h : d.M w base ok x cs) : d.M w1 base ok' x cs := by
  refine d.M_mono (ok := fun _ => False) (fun _ h => h.elim) (d.M_move (w := w) (fun _ h => h.elim) ?_)
  exact d.M_mono (fun k hk => by obtain ⟨_, _, _, q, hq, _⟩ := hk; rw [hE] at hq; cases hq) (d.M_bound h)
theorem R_open (hE : d.E = []) (h : d.R e w base ok v xs) : (v = .slice none 0 0 ∧ xs = []) ∨
    ∃ g cap cur, v = .slice (some ⟨g, 0, none⟩) xs.length cap ∧ base ≤ g ∧ ok g ∧ w.heap[g]? = some (.cells cur e (0, 0)) ∧ xs.length ≤ cap ∧ cap ≤ maxLen ∧ cur.size = cap * d.sz ∧
      (∀ w1 ok', Reps (d.M w1 base ok') d.sz xs (cur.toList.take (xs.length * d.sz))) ∧ (∀ u ∈ cur.toList.take (xs.length * d.sz), u.oneCell' = true) := by
  obtain ⟨h0, inner, ⟨hl, ho⟩, hr⟩ := h
  rcases ho with ⟨rfl, hn⟩ | ⟨g, cap, cur, rfl, hb, hg, hn, hc, hs, ht⟩
  · exact .inl ⟨rfl, List.length_eq_zero_iff.mp hn⟩
  · refine .inr ⟨g, cap, cur, rfl, hb, h0 g rfl, hg, hn, hc, hs, fun w1 ok' => ?_, ?_⟩
    · rw [ht]; exact hr.imp_ (fun _ _ hp => M_any hE hp)
    · rw [ht]
      exact reps_one (hr.imp_ (fun _ _ hp => d.K_of_M hp)) (fun _ _ hk => d.K_one hk)
theorem R_close {g cap : Nat} {cur : Array Value} (hb : base ≤ g) (hok : ok g) (hg : w.heap[g]? = some (.cells cur e (0, 0))) (hn : xs.length ≤ cap) (hc : cap ≤ maxLen) (hs : cur.size = cap * d.sz)
    (hr : Reps (d.M w base (fun k => ok k ∧ some k ≠ some g)) d.sz xs (cur.toList.take (xs.length * d.sz))) : d.R e w base ok (.slice (some ⟨g, 0, none⟩) xs.length cap) xs :=
  ⟨fun k hk => by injection hk with hk; exact hk ▸ hok, cur.toList.take (xs.length * d.sz), ⟨hr.1, .inr ⟨g, cap, cur, rfl, hb, hg, hn, hc, hs, rfl⟩⟩, hr⟩
end
end Kd
end Go.Proofs.YtpiaeinfneoioaaW.PrintWords
