/- A call of a function value: the closure's number and what it captured are known. No condition. -/
import Derived.Test.YtdfbmaiboadodaaDoorWWordsT
import Derived.Test.YtdfbmaiboadodaaDoorWLastT
import Derived.Test.YtdfbmaiboadodaaDoorWMoreT
import Derived.Lib.SliceRun
namespace Go.Proofs.YtdfbmaiboadodaaDoorW.PrintWords
open Go.RowKit Go.Proofs.YtdfbmaiboadodaaDoorW.PrintLast
variable {P : Program} {ops : Array Oper} {Q : Exit → Act → World → Prop}
theorem goesF_ {rest : List Oper} {oi : Oper} {a : Act} {w : World} (N : Option Tmp) (hd : oi.dst = N) (hg : oi.guard = none) {f : FuncId} {fn : Func} {q : Tmp} {lb : Array Value} {as : Array Operand} {ts : Array TypeId} (hf : P.funcs[f]? = some fn) (hname : (fn.name == "runtime.NumGoroutine") = false) (hb : fn.body.isSome = true) (args : Array Value)
    (hop : oi.op = .call { callee := .value (.tmp q), args := as, argTypes := ts }) (hq : a.eval (.tmp q) = .func (.func f) #[] lb) (hargs : as.map a.eval ++ lb = args)
    (h : Calls P f args w fun e w' => ∃ v, e = .returned v ∧ wpList P ops Q rest (a.put N v) w') : wpList P ops Q (oi :: rest) a w := by
  refine wpList_plain hg fun K hK => ?_
  have he := enters_ hf hname hb args w
  have hrun : (execOp a.eval oi).run P w = .ok (.enter f args) w := by
    unfold execOp
    simp [hop, resolve, Deferred.ofValue, invoke, hq, hargs, he]
  unfold Oper.wp
  rw [hrun, Oper.upon_enter]
  refine h.mono fun e w'' hh => ?_
  obtain ⟨v, rfl, hk⟩ := hh
  subst hd
  exact hK _ _ hk

/-! ### clear(xs[L:]), xs a row of the call's own -/
def clr {α : Type} (xs : List α) (L : Nat) (z : α) : List α := xs.take L ++ List.replicate (xs.length - L) z
theorem setCells_append_ (b : Nat) : ∀ (xs ys : List Value) (o : Nat) (w : World), w.setCells b o (xs ++ ys) = (w.setCells b o xs).setCells b (o + xs.length) ys
  | [], ys, o, w => rfl
  | x :: xs, ys, o, w => by
    show (w.setCell ⟨b, o, none⟩ x).setCells b (o + 1) (xs ++ ys) = _
    rw [setCells_append_ b xs ys (o + 1)]
    show _ = ((w.setCell ⟨b, o, none⟩ x).setCells b (o + 1) xs).setCells b (o + (xs.length + 1)) ys
    rw [show o + 1 + xs.length = o + (xs.length + 1) from by omega]
namespace Kd
variable {α : Type}
theorem R_zeros (d : Kd α) {e base g cap : Nat} {ok : Nat → Prop} (z : α) (zc : List Value) (hzl : zc.length = d.sz) (hzM : ∀ W', d.M W' base (fun _ => False) z zc) :
    ∀ (m L : Nat) (W : World) (xs : List α), L + m = xs.length → d.R e W base ok (.slice (some ⟨g, 0, none⟩) xs.length cap) xs →
      d.R e (W.setCells g (L * d.sz) (List.replicate m zc).flatten) base ok (.slice (some ⟨g, 0, none⟩) xs.length cap) (clr xs L z) ∧ W.grownBy (W.setCells g (L * d.sz) (List.replicate m zc).flatten) (some g)
  | 0, L, W, xs, hm, h => by
    have hc : clr xs L z = xs := by
      unfold clr
      rw [List.take_of_length_le (by omega), show xs.length - L = 0 from by omega]
      simp
    rw [hc]
    exact ⟨h, World.grownBy.refl _ _⟩
  | m + 1, L, W, xs, hm, h => by
    have hL : (L : Int) < (xs.length : Int) := by omega
    obtain ⟨c, hcl, _, hcc, _⟩ := R_elem h z (L : Int) (by omega) hL
    have hs := R_seg (okp := fun _ => False) h (L : Int) (by omega) hL (c := c) (seg := zc) (j := 0) hcl hcc (by omega) (x' := z) (by
      have : c.take 0 ++ zc ++ c.drop (0 + zc.length) = zc := by rw [List.drop_of_length_le (by omega)]; simp
      rw [this]
      exact hzM W) (fun _ hk => hk.elim)
    simp only [Int.toNat_natCast, Nat.add_zero] at hs
    have hl : (xs.set L z).length = xs.length := List.length_set ..
    have hr := R_zeros d (e := e) (cap := cap) (ok := ok) z zc hzl hzM m (L + 1) (W.setCells g (L * d.sz) zc) (xs.set L z) (by omega) (by rw [hl]; exact hs.1)
    rw [hl] at hr
    have hcl2 : clr (xs.set L z) (L + 1) z = clr xs L z := by
      unfold clr
      rw [List.length_set, List.take_succ_eq_append_getElem (by rw [List.length_set]; omega), List.take_set_of_le (Nat.le_refl _), List.getElem_set_self, show xs.length - L = (xs.length - (L + 1)) + 1 from by omega, List.replicate_succ, List.append_assoc]
      rfl
    rw [hcl2] at hr
    have hset : W.setCells g (L * d.sz) (List.replicate (m + 1) zc).flatten = (W.setCells g (L * d.sz) zc).setCells g ((L + 1) * d.sz) (List.replicate m zc).flatten := by
      rw [List.replicate_succ, List.flatten_cons, setCells_append_, hzl, Nat.succ_mul]
    rw [hset]
    exact ⟨hr.1, hs.2.trans hr.2⟩
theorem zeroCells_toList (zv : Value) (m : Nat) : (Builtin.zeroCells zv.cells m).toList = (List.replicate m zv.cells.toList).flatten := by
  induction m with
  | zero => simp [Builtin.zeroCells]
  | succ m ih =>
    rw [List.replicate_succ', List.flatten_append]
    simp only [List.flatten_cons, List.flatten_nil, List.append_nil]
    rw [← ih]
    unfold Builtin.zeroCells
    rcases Nat.eq_zero_or_pos zv.cells.size with h0 | h0
    · have : zv.cells = #[] := Array.size_eq_zero_iff.mp h0
      simp [this]
    · apply List.ext_getElem
      · simp [Nat.succ_mul]
      · intro i h1 h2
        simp only [Array.toList_map, Array.toList_range, List.getElem_map, List.getElem_range]
        simp only [Array.toList_map, Array.toList_range, List.length_map, List.length_range, Nat.succ_mul] at h1
        rcases Nat.lt_or_ge i (m * zv.cells.size) with hi | hi
        · rw [List.getElem_append_left (by simpa using hi)]
          simp
        · rw [List.getElem_append_right (by simpa using hi)]
          have hmod : i % zv.cells.size = i - m * zv.cells.size := by
            have : i = (i - m * zv.cells.size) + m * zv.cells.size := by omega
            rw [this, Nat.add_mul_mod_self_right, Nat.mod_eq_of_lt (by omega)]
            omega
          simp only [hmod, List.length_map, List.length_range, Array.getElem_toList]
          exact getElem!_pos ..
theorem R_clear (d : Kd α) {w0 W : World} (base : Nat) {ops : Array Oper} {rest : List Oper} {o : Oper} {a : Act} {Q : Exit → Act → World → Prop} {P : Program} (hgd : o.guard = none) (hdst : o.dst = none) (s : Operand) (t e : TypeId)
    (ho : o.op = .call { callee := .builtin .clear, args := #[s], argTypes := #[t] }) (ht : P.underlying t = some (.slice e)) {zv : Value} (hz : ∀ w, (zeroValue e).run P w = .ok zv w)
    (z : α) (hzl : zv.cells.toList.length = d.sz) (hz1 : ∀ u ∈ zv.cells.toList, u.oneCell' = true) (hzM : ∀ W', d.M W' base (fun _ => False) z zv.cells.toList)
    (A0 A1 : Option Addr) (n c0 c1 m L : Nat) (xs : List α) (ok : Nat → Prop) (hs : a.eval s = .slice A1 m c1) (HO : d.R e W base ok (.slice A0 n c0) xs) (hL : L ≤ n) (hA : A1 = if c0 = L then A0 else A0.map (·.add (L * d.sz))) (hm : m = n - L)
    (HB : Below base w0 W) (hbase : base ≤ W.heap.size)
    (h : ∀ w1, d.R e w1 base ok (.slice A0 n c0) (clr xs L z) → Below base w0 w1 → W.grownBy w1 (Value.slice A0 n c0).ownBlock → wpList P ops Q rest a w1) : wpList P ops Q (o :: rest) a W := by
  obtain ⟨hn, hnc, _⟩ := R_reads' HO
  have key : ∃ w1, (Builtin.clear_ #[t] o.type #[.slice A1 m c1]).run P W = .ok (.tuple #[]) w1 ∧ d.R e w1 base ok (.slice A0 n c0) (clr xs L z) ∧ W.grownBy w1 (Value.slice A0 n c0).ownBlock := by
    rcases Nat.eq_zero_or_pos m with h0 | h0
    · have hLn : L = xs.length := by omega
      have hc : clr xs L z = xs := by
        unfold clr
        rw [List.take_of_length_le (by omega), show xs.length - L = 0 from by omega]
        simp
      refine ⟨W, ?_, by rw [hc]; exact HO, World.grownBy.refl _ _⟩
      subst h0
      cases A1 <;> simp [Builtin.clear_, run_underlying ht]
    · obtain ⟨g, cap, he, _, _, _⟩ := R_form HO (by omega)
      injection he with e1 e2 e3
      subst e1 e3 hn
      have hA' : A1 = some ⟨g, L * d.sz, none⟩ := by
        rw [hA, if_neg (by omega)]
        simp [Addr.add]
        exact fun h => h.symm
      subst hA'
      have hR := R_zeros d (e := e) (cap := c0) (ok := ok) z zv.cells.toList hzl hzM m L W xs (by omega) HO
      refine ⟨_, ?_, hR.1, hR.2⟩
      have hfl : (List.replicate m zv.cells.toList).flatten.length = m * d.sz := by simp [List.length_flatten, hzl]
      have hcell : ∀ j, j < m * d.sz → (W.cell? ⟨g, L * d.sz + j, none⟩).isSome = true ∧ W.frozen? ⟨g, L * d.sz + j, none⟩ = false := fun j hj => by
        have hd0 : 0 < d.sz := by
          rcases Nat.eq_zero_or_pos d.sz with h | h
          · rw [h] at hj; omega
          · exact h
        have hq : j / d.sz < m := (Nat.div_lt_iff_lt_mul hd0).2 hj
        obtain ⟨c, hcl, _, hcc, hcf⟩ := R_elem HO z ((L + j / d.sz : Nat) : Int) (Int.natCast_nonneg _) (Int.ofNat_lt.2 (by omega))
        simp only [Int.toNat_natCast] at hcc hcf
        have hjm : j % d.sz < c.length := by rw [hcl]; exact Nat.mod_lt _ hd0
        have hidx : (L + j / d.sz) * d.sz + j % d.sz = L * d.sz + j := by
          rw [Nat.add_mul, Nat.add_assoc, Nat.mul_comm (j / d.sz), Nat.div_add_mod]
        have h1 := hcc (j % d.sz) _ (List.getElem?_eq_getElem hjm)
        have h2 := hcf (j % d.sz)
        rw [hidx] at h1 h2
        exact ⟨by rw [h1]; rfl, h2⟩
      have hst := run_storeCells_cells (P := P) g (L * d.sz) (List.replicate m zv.cells.toList).flatten 0 W (fun j hj => by rw [Nat.add_zero]; exact (hcell j (by omega)).1) (fun j hj => by rw [Nat.add_zero]; exact (hcell j (by omega)).2) (fun v hv => by
        obtain ⟨l, hl, hvl⟩ := List.mem_flatten.1 hv
        rw [List.eq_of_mem_replicate hl] at hvl
        exact hz1 v hvl)
      simp only [Nat.add_zero] at hst
      obtain ⟨m', rfl⟩ : ∃ m', m = m' + 1 := ⟨m - 1, by omega⟩
      simp [Builtin.clear_, run_underlying ht, hz, zeroCells_toList, hst]
  obtain ⟨w1, hrun, hR, hg⟩ := key
  refine wpList_plain hgd fun K hK => ?_
  unfold Oper.wp execOp
  simp only [ho, resolve, invoke, builtin, Sem.run_bind, Sem.run_pure, Result.andThen_ok, List.map_toArray, List.map_cons, List.map_nil, hs, hrun]
  have := hK (a.put o.dst (.tuple #[])) w1 (by rw [hdst]; exact h w1 hR (HB.grown hg hbase (R_base HO)) hg)
  exact this
end Kd
end Go.Proofs.YtdfbmaiboadodaaDoorW.PrintWords
