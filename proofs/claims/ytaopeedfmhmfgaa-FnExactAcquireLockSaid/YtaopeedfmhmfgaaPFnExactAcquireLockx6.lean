-- Printed by a program of mine (wip/myprint.py), which runs the printer of the kit with contracts of mine beside it.
import Derived.Test.YtaopeedfmhmfgaaPFnExactAcquireLockx0
import Derived.Test.YtaopeedfmhmfgaaPFnExactAcquireLockx5
namespace Go.Proofs.Ytaopeedfmhmfgaa.PFnExactAcquireLock
open Go.RowKit Go.Proofs.YtaopeedfmhmfgaaW.PrintWords Go.Proofs.YtaopeedfmhmfgaaW.PrintLast Go.Proofs.YtaopeedfmhmfgaaW.PrintMore
attribute [local go_sem] max2_int min2_int max_two min_two max_three min_three max_four min_four   -- for this text's walks alone
set_option linter.unusedVariables false
set_option linter.unusedSimpArgs false

/-! ### impl_Lock_119: function 119 -/
section
open Go.Lib
set_option maxHeartbeats 4000000 in
set_option maxRecDepth 100000 in
theorem impl_Lock_119_shift (b n c i vb vc : Nat) (cur cv : Array Value) (w : World) (hi : i < n) (hroom : n + 1 ≤ c) (hc63 : c ≤ 9223372036854775807) (hvb : vb ≠ b)
    (hb : w.heap[b]? = some (.cells cur 93 (0, 0))) (hv : w.heap[vb]? = some (.cells cv 93 (0, 0))) (hcs : cur.size = c * 2) (hcv : 2 ≤ cv.size)
    (h1c : ∀ u ∈ cur.toList.take (n * 2), u.oneCell' = true) (h1v : ∀ u ∈ cv.toList.take 2, u.oneCell' = true) :
    Calls Try.prog 119 #[.slice (some ⟨b, 0, none⟩) n c, .int .i64 i, .slice (some ⟨vb, 0, none⟩) 1 vc] w fun e w' =>
      e = .returned (.slice (some ⟨b, 0, none⟩) (n + 1) c) ∧ w' = w.drew.setRow b ((cur.toList.take (n * 2)).take (i * 2) ++ cv.toList.take 2 ++ (cur.toList.take (n * 2)).drop (i * 2) ++ cur.toList.drop (n * 2 + 2)).toArray := by
  have hu93 := Try.underlying93
  have hz1 : ¬ ((1 : Int) = 0) := by omega
  have hz2 : ¬ ((i : Int) = (n : Int)) := by omega
  have hin : i ≤ n := by omega
  have hw1 : IntKind.i64.wrap ((i : Int) + 1) = (i : Int) + 1 := by rw [IntKind.wrap_i64]; omega
  have hw2 : IntKind.i64.wrap ((n : Int) + 1) = (n : Int) + 1 := by rw [IntKind.wrap_i64]; omega
  have hw1' : wrap64 ((i : Int) + 1) = (i : Int) + 1 := by unfold wrap64; omega
  have hw2' : wrap64 ((n : Int) + 1) = (n : Int) + 1 := by unfold wrap64; omega
  have hb1 : (0 : Int) ≤ (i : Int) + 1 := by omega
  have htn : ((i : Int) + 1).toNat = i + 1 := by omega
  have htn2 : ((n : Int) + 1).toNat = n + 1 := by omega
  have hb2 : ¬ (c = i + 1) := by omega
  have hb3 : (i : Int) ≤ (n : Int) + 1 := by omega
  have hb3' : (i : Int) + 1 ≤ (n : Int) + 1 := by omega
  have hb4 : ¬ (c = i) := by omega
  have hb5 : (n : Int) + 1 ≤ (c : Int) := by omega
  have hb6 : ¬ ((n : Int) + 1 > (c : Int)) := by omega
  have hb7 : (0 : Int) ≤ (n : Int) + 1 := by omega
  have hz93 : ∀ w, (Go.sizeOf 93).run Try.prog w = .ok 2 w := fun w => by
    obtain ⟨i0, hi0, h0, h1, h2⟩ := info_parts info93
    simp [sizeOf, typeInfo, hi0, h1]
  have hov : ∀ lb cb, (callFunc 132 #[.slice (some ⟨vb, 0, none⟩) 1 vc, .slice (some ⟨b, (i + 1) * 2, none⟩) lb cb]).run Try.prog w = .ok (.value (.bool false)) w := fun lb cb => by
    rw [run_callFunc_extern Try.func132 (by kernel_rfl) (by kernel_rfl) (by kernel_rfl) (e := Extern.SlicesOverlaps.overlaps #[39, 39] #[4]) (by kernel_rfl),
      run_overlaps_apart w 39 4 93 Try.underlying39 2 hz93 ⟨vb, 0, none⟩ ⟨b, (i + 1) * 2, none⟩ 1 vc lb cb hvb 93 93 cv.size cur.size (by unfold World.shape?; rw [hv]) (by unfold World.shape?; rw [hb]) (by rw [hcs]; omega) (by simp [World.frozen?, hv]) (by simp [World.frozen?, hv])]
    rfl
  have hdl : ((cur.toList.take (n * 2)).drop (i * 2)).length = (n - i) * 2 := by rw [List.length_drop, List.length_take, Array.length_toList, hcs]; omega
  have hvl : (cv.toList.take 2).length = 2 := by rw [List.length_take, Array.length_toList]; omega
  have hsz : (Try.prog.info? 93).map (·.size) = some 2 := by
    obtain ⟨i0, hi0, h0, h1, h2⟩ := info_parts info93
    rw [hi0]; simp [h1]
  have hcb : ∀ (W : World), W.heap = w.heap → ∀ j v, ((cur.toList.take (n * 2)).drop (i * 2))[j]? = some v → W.cell? ((⟨b, i * 2, none⟩ : Addr).add j) = some v := fun W hW j v hj => by
    rw [Addr.add_lit]
    rw [List.getElem?_drop, List.getElem?_take] at hj
    split at hj
    · simp only [World.cell?, hW, hb]
      rw [← Array.getElem?_toList]; simpa using hj
    · cases hj
  obtain ⟨cur1, hcur1⟩ : ∃ c1, c1 = (cur.toList.take ((i + 1) * 2) ++ (cur.toList.take (n * 2)).drop (i * 2) ++ cur.toList.drop ((i + 1) * 2 + ((cur.toList.take (n * 2)).drop (i * 2)).length)) := ⟨_, rfl⟩
  have hcp1 : ∀ ty dc sc, (Builtin.copy_ #[39, 39] ty #[.slice (some ⟨b, (i + 1) * 2, none⟩) (n - i) dc, .slice (some ⟨b, i * 2, none⟩) (n + 1 - i) sc]).run Try.prog w.drew = .ok (goInt (Nat.min (n + 1 - i) (n - i))) (w.drew.setRow b cur1.toArray) := fun ty dc sc => by
    rw [hcur1]
    exact run_copy_rowN w.drew 39 39 ty 93 2 b ((i + 1) * 2) (n - i) dc ⟨b, i * 2, none⟩ (n + 1 - i) sc cur 93 ((cur.toList.take (n * 2)).drop (i * 2)) Try.underlying39 hsz hb (by rw [hdl]; simp only [Nat.min_def]; split <;> omega)
      (hcb _ rfl) (by rw [hdl, hcs]; omega) (fun v hv => h1c v (List.mem_of_mem_drop hv))
  have hl1 : cur1.length = cur.size := by
    rw [hcur1, List.length_append, List.length_append, hdl, List.length_drop, List.length_take, Array.length_toList, hcs]; omega
  have hcp2 : ∀ (W : World), W.heap = (w.drew.setRow b cur1.toArray).heap → ∀ ty dc, (Builtin.copy_ #[39, 39] ty #[.slice (some ⟨b, i * 2, none⟩) (n + 1 - i) dc, .slice (some ⟨vb, 0, none⟩) 1 vc]).run Try.prog W = .ok (goInt (Nat.min 1 (n + 1 - i))) (W.setRow b (cur1.take (i * 2) ++ cv.toList.take 2 ++ cur1.drop (i * 2 + (cv.toList.take 2).length)).toArray) := fun W hW ty dc => by
    have hWb : W.heap[b]? = some (.cells cur1.toArray 93 (0, 0)) := by rw [hW]; exact setRow_heap w.drew b cur cur1.toArray 93 (0, 0) hb
    have hWv : W.heap[vb]? = some (.cells cv 93 (0, 0)) := by
      rw [hW]
      simp only [World.setRow]
      rw [Array.getElem?_modify, if_neg (fun h => hvb h.symm)]
      exact hv
    have h := run_copy_rowN W 39 39 ty 93 2 b (i * 2) (n + 1 - i) dc ⟨vb, 0, none⟩ 1 vc cur1.toArray 93 (cv.toList.take 2) Try.underlying39 hsz hWb (by rw [hvl]; simp only [Nat.min_def]; split <;> omega)
      (fun j v hj => by
        rw [Addr.add_lit]
        rw [List.getElem?_take] at hj
        split at hj
        · simp only [World.cell?, hWv]
          rw [← Array.getElem?_toList]; simpa using hj
        · cases hj) (by rw [hvl]; simp only [List.size_toArray, hl1, hcs]; omega) h1v
    simpa using h
  have hfin : (w.drew.setRow b cur1.toArray).setRow b (cur1.take (i * 2) ++ cv.toList.take 2 ++ cur1.drop (i * 2 + (cv.toList.take 2).length)).toArray = w.drew.setRow b ((cur.toList.take (n * 2)).take (i * 2) ++ cv.toList.take 2 ++ (cur.toList.take (n * 2)).drop (i * 2) ++ cur.toList.drop (n * 2 + 2)).toArray := by
    rw [setRow_setRow, hcur1]
    congr 1
    congr 1
    have h := shift_cells cur.toList (cv.toList.take 2) (i * 2) 2 (n * 2) (by omega) (by rw [Array.length_toList, hcs]; omega) hvl
    simpa [Nat.add_mul] using h
  rw [← hfin]
  clear hcur1 hfin
  have mixed : Try.prog.follows Departure.mixedOrders = true := by kernel_rfl
  go_enter Try.func119, Try.ntmps119
  go_wp2_with (simp only [hov])
  go_region_law_o (refine step_copy_runI rfl _ _ 39 39 rfl _ _ (by simp [Act.eval, Act.put]) (by simp [Act.eval, Act.put]) (hcp1 _ _ _) ?_)
  go_wp2_with (at_builtin; refine wpList_copy_runI _ rfl _ _ 39 39 rfl _ _ rfl rfl (hcp2 _ rfl _ _) ?_)
  go_ret
  exact ⟨rfl, by rw [hvl, List.append_assoc]⟩
set_option maxHeartbeats 4000000 in
set_option maxRecDepth 100000 in
theorem impl_Lock_119_grow (b n c i vb vc : Nat) (cur cv : Array Value) (w : World) (hi : i < n) (hnc : n ≤ c) (hroom : c < n + 1) (hbig : (n + 1) * 16 ≤ 140737488355328)
    (hb : w.heap[b]? = some (.cells cur 93 (0, 0))) (hv : w.heap[vb]? = some (.cells cv 93 (0, 0))) (hcs : cur.size = c * 2) (hcv : 2 ≤ cv.size)
    (h1c : ∀ u ∈ cur.toList.take (n * 2), u.oneCell' = true) (h1v : ∀ u ∈ cv.toList.take 2, u.oneCell' = true) (z : Value) (hz : z = .agg #[.int .i64 0, .int .i64 0])
    (ROW : Array Value) (hROW : ROW = (cur.toList.take (i * 2)).toArray ++ Builtin.zeroCells z.cells (n + 1 - i) ++ Builtin.zeroCells z.cells (grownCap w (n + 1) c 93 - (n + 1))) :
    Calls Try.prog 119 #[.slice (some ⟨b, 0, none⟩) n c, .int .i64 i, .slice (some ⟨vb, 0, none⟩) 1 vc] w fun e w' =>
      e = .returned (.slice (some ⟨w.heap.size, 0, none⟩) (n + 1) (grownCap w (n + 1) c 93)) ∧
      w' = (((w.alloc (.cells ROW 93)).drew.setRow w.heap.size (ROW.toList.take (i * 2) ++ cv.toList.take 2 ++ ROW.toList.drop (i * 2 + 2)).toArray).drew).setRow w.heap.size
        ((ROW.toList.take (i * 2) ++ cv.toList.take 2 ++ ROW.toList.drop (i * 2 + 2)).take ((i + 1) * 2) ++ (cur.toList.take (n * 2)).drop (i * 2) ++ (ROW.toList.take (i * 2) ++ cv.toList.take 2 ++ ROW.toList.drop (i * 2 + 2)).drop ((i + 1) * 2 + (n - i) * 2)).toArray := by
  have hu93 := Try.underlying93
  obtain ⟨i0, hi0, hz0, hzs, hzb⟩ := info_parts info93
  rw [← hz] at hz0
  have hz1 : ¬ ((1 : Int) = 0) := by omega
  have hz2 : ¬ ((i : Int) = (n : Int)) := by omega
  have hz3 : (c : Int) < (n : Int) + 1 := by omega
  have hz3' : (n : Int) + 1 > (c : Int) := by omega
  have hin : i ≤ n := by omega
  have hw1 : IntKind.i64.wrap ((i : Int) + 1) = (i : Int) + 1 := by rw [IntKind.wrap_i64]; omega
  have hw2 : IntKind.i64.wrap ((n : Int) + 1) = (n : Int) + 1 := by rw [IntKind.wrap_i64]; omega
  have hw3 : IntKind.i64.wrap ((n : Int) + 1 - (i : Int)) = (n : Int) + 1 - (i : Int) := by rw [IntKind.wrap_i64]; omega
  have hb1 : (0 : Int) ≤ (i : Int) + 1 := by omega
  have htn : ((i : Int) + 1).toNat = i + 1 := by omega
  have hb3 : (i : Int) ≤ (n : Int) := by omega
  have hb3' : (i : Int) + 1 ≤ (n : Int) + 1 := by omega
  have hci : ¬ (c = i) := by omega
  have hbw : b < w.heap.size := (Array.getElem?_eq_some_iff.1 hb).1
  have hvw : vb < w.heap.size := (Array.getElem?_eq_some_iff.1 hv).1
  have hsz : (Try.prog.info? 93).map (·.size) = some 2 := by rw [hi0]; simp [hzs]
  have hkk : (n : Int) + 1 - (i : Int) = ((n + 1 - i : Nat) : Int) := by omega
  have hik : i + (n + 1 - i) = n + 1 := by omega
  have hdl : ((cur.toList.take (n * 2)).drop (i * 2)).length = (n - i) * 2 := by rw [List.length_drop, List.length_take, Array.length_toList, hcs]; omega
  have hvl : (cv.toList.take 2).length = 2 := by rw [List.length_take, Array.length_toList]; omega
  have htl : (cur.toList.take (i * 2)).length = i * 2 := by rw [List.length_take, Array.length_toList, hcs]; omega
  have hold : (Builtin.firstCells i0.size i (.slice (some ⟨b, 0, none⟩) i c)).run Try.prog w.drew = .ok (cur.toList.take (i * 2)).toArray w.drew := by
    rw [hzs]
    exact run_firstCells_some w.drew 2 i ⟨b, 0, none⟩ i c (cur.toList.take (i * 2)) htl (fun j v hj => by
      rw [Addr.add_lit, Nat.zero_add]
      rw [List.getElem?_take] at hj
      split at hj
      · show w.drew.cell? ⟨b, j, none⟩ = some v
        have hb' : w.drew.heap[b]? = some (.cells cur 93 (0, 0)) := hb
        simp only [World.cell?, hb']
        rw [← Array.getElem?_toList]; exact hj
      · cases hj)
  obtain ⟨G, hG⟩ : ∃ G, G = grownCap w (n + 1) c 93 := ⟨_, rfl⟩
  rw [← hG] at hROW ⊢
  have hrz : ∀ ty, (Builtin.append_ #[39, 3] ty #[.slice (some ⟨b, 0, none⟩) i c, .int .i64 ((n : Int) + 1 - (i : Int))]).run Try.prog w =
      .ok (.slice (some ⟨w.heap.size, 0, none⟩) (n + 1) G) (w.drew.alloc (.cells ROW 93)) := fun ty => by
    have h := Go.Lib.run_append_grow_zeros w 39 3 ty 93 i0 z .i64 .i64 Try.underlying39 Try.underlying3 hi0 hz0 (some ⟨b, 0, none⟩) i c (cur.toList.take (i * 2)) hold (n + 1 - i) (by omega) (by omega) (by omega) (by omega) (by rw [hzb]; omega) (by rw [hzb, hik]; exact growslice_fits (by omega) (by omega))
    rw [hik, ← hG, ← hROW] at h
    rw [hkk]
    exact h
  have hGn : n + 1 ≤ G := by rw [hG]; exact grownCap_ge w _ _ _
  have hG63 : G ≤ 9223372036854775807 := by
    have := grownCap_le_maxLen w (n + 1) c 93 (by unfold maxLen; omega)
    rw [← hG] at this
    unfold maxLen at this
    omega
  have hGi : ¬ (G = i) := by omega
  have hGim : ¬ (G = i + 1) := by omega
  have hRl : ROW.size = G * 2 := by
    rw [hROW, hz]
    simp [Builtin.zeroCells, Value.cells, htl]
    omega
  obtain ⟨r1, hr1⟩ : ∃ r1, r1 = ROW.toList.take (i * 2) ++ cv.toList.take 2 ++ ROW.toList.drop (i * 2 + 2) := ⟨_, rfl⟩
  rw [← hr1]
  have hl1 : r1.length = G * 2 := by
    rw [hr1, List.length_append, List.length_append, hvl, List.length_drop, List.length_take, Array.length_toList, hRl]; omega
  have hcpA : ∀ (W : World), W.heap = (w.drew.alloc (.cells ROW 93)).heap → ∀ ty dc, (Builtin.copy_ #[39, 39] ty #[.slice (some ⟨w.heap.size, i * 2, none⟩) (n + 1 - i) dc, .slice (some ⟨vb, 0, none⟩) 1 vc]).run Try.prog W = .ok (goInt (Nat.min 1 (n + 1 - i))) (W.setRow w.heap.size r1.toArray) := fun W hW ty dc => by
    have hWb : W.heap[w.heap.size]? = some (.cells ROW 93 (0, 0)) := by rw [hW]; show (w.heap.push _)[w.heap.size]? = _; simp
    have hWv : W.heap[vb]? = some (.cells cv 93 (0, 0)) := by
      rw [hW]
      show (w.heap.push _)[vb]? = _
      rw [Array.getElem?_push_lt hvw]
      exact (Array.getElem?_eq_getElem hvw).symm.trans hv
    have h := run_copy_rowN W 39 39 ty 93 2 w.heap.size (i * 2) (n + 1 - i) dc ⟨vb, 0, none⟩ 1 vc ROW 93 (cv.toList.take 2) Try.underlying39 hsz hWb (by rw [hvl]; simp only [Nat.min_def]; split <;> omega)
      (fun j v hj => by
        rw [Addr.add_lit]
        rw [List.getElem?_take] at hj
        split at hj
        · simp only [World.cell?, hWv]
          rw [← Array.getElem?_toList]; simpa using hj
        · cases hj) (by rw [hvl, hRl]; omega) h1v
    rw [hr1]
    rw [hvl] at h
    exact h
  have hcpB : ∀ (W : World), W.heap = ((w.drew.alloc (.cells ROW 93)).setRow w.heap.size r1.toArray).heap → ∀ ty dc sc, (Builtin.copy_ #[39, 39] ty #[.slice (some ⟨w.heap.size, (i + 1) * 2, none⟩) (n - i) dc, .slice (some ⟨b, i * 2, none⟩) (n - i) sc]).run Try.prog W = .ok (goInt (Nat.min (n - i) (n - i))) (W.setRow w.heap.size (r1.take ((i + 1) * 2) ++ (cur.toList.take (n * 2)).drop (i * 2) ++ r1.drop ((i + 1) * 2 + (n - i) * 2)).toArray) := fun W hW ty dc sc => by
    have hWb : W.heap[w.heap.size]? = some (.cells r1.toArray 93 (0, 0)) := by rw [hW]; exact setRow_heap _ _ ROW r1.toArray 93 (0, 0) (by show (w.heap.push _)[w.heap.size]? = _; simp)
    have hWo : W.heap[b]? = some (.cells cur 93 (0, 0)) := by
      rw [hW]
      simp only [World.setRow]
      rw [Array.getElem?_modify, if_neg (by omega)]
      show (w.heap.push _)[b]? = _
      rw [Array.getElem?_push_lt hbw]
      exact (Array.getElem?_eq_getElem hbw).symm.trans hb
    have h := run_copy_rowN W 39 39 ty 93 2 w.heap.size ((i + 1) * 2) (n - i) dc ⟨b, i * 2, none⟩ (n - i) sc r1.toArray 93 ((cur.toList.take (n * 2)).drop (i * 2)) Try.underlying39 hsz hWb (by rw [hdl]; simp only [Nat.min_def]; split <;> omega)
      (fun j v hj => by
        rw [Addr.add_lit]
        rw [List.getElem?_drop, List.getElem?_take] at hj
        split at hj
        · simp only [World.cell?, hWo]
          rw [← Array.getElem?_toList]; simpa using hj
        · cases hj) (by rw [hdl]; simp only [List.size_toArray, hl1]; omega) (fun v hv => h1c v (List.mem_of_mem_drop hv))
    rw [hdl] at h
    exact h
  have mixed : Try.prog.follows Departure.mixedOrders = true := by kernel_rfl
  clear hkk hik hold hROW hRl hr1 hl1 hG
  go_enter Try.func119, Try.ntmps119
  go_wp2_with (first
    | (at_builtin; refine Go.Lib.wpList_append_run _ rfl _ _ _ _ rfl _ _ rfl rfl _ _ (hrz _) ?_)
    | ((with_reducible refine gate_builtin (b := .copy) rfl ?_); refine wpList_copy_runI _ rfl _ _ 39 39 rfl _ _ rfl rfl (hcpA _ (by rfl) _ _) ?_)
    | ((with_reducible refine gate_builtin (b := .copy) rfl ?_); refine wpList_copy_runI _ rfl _ _ 39 39 rfl _ _ rfl rfl (hcpB _ (by rfl) _ _ _) ?_))
  go_region_law_o (refine step_copy_runI rfl _ _ 39 39 rfl (.slice (some ⟨w.heap.size, (i + 1) * 2, none⟩) (n - i) (G - (i + 1))) (.slice (some ⟨b, i * 2, none⟩) (n - i) (c - i)) (by simp [Act.eval, Act.put]) (by simp [Act.eval, Act.put]) (hcpB _ (by rfl) _ _ _) ?_)
  go_wp2
  go_ret
  exact ⟨rfl, by rw [List.append_assoc]⟩
set_option maxHeartbeats 4000000 in
set_option maxRecDepth 100000 in
theorem impl_Lock_119_end (P0_ : Nat → Prop) (u0 : Value) (l0 : List S93) (A2 : Option Addr) (c2 : Nat) (l2 : List S93) (w0 w : World) (hB : Below w0.heap.size w0 w) (ho0 : Kd.R k93 93 w w0.heap.size P0_ u0 l0)
    (hr2 : Kd.C k93 w A2 1 l2) (h2 : l2.length = 1) (hlim : l0.length < 8796093022207) :
    Calls Try.prog 119 #[u0, .int .i64 (l0.length : Int), .slice A2 1 c2] w fun e w' => ∃ v1, e = .returned v1 ∧ Kd.R k93 93 w' w0.heap.size (fun k_ => P0_ k_ ∨ w.heap.size ≤ k_) v1 (l0 ++ l2) ∧ Below w0.heap.size w0 w' ∧ w.grownBy w' u0.ownBlock := by
  have hu93 := Try.underlying93
  obtain ⟨A0, c0, e0⟩ := Kd.R_slice ho0
  subst e0
  have hnc := (Kd.R_reads' ho0).2.1
  have hz1 : ¬ ((1 : Int) = 0) := by omega
  have hin : (l0.length : Int) ≤ (l0.length : Int) := by omega
  have hO : Kd.R k93 93 w w0.heap.size (fun k_ => P0_ k_ ∨ w.heap.size ≤ k_) (.slice A0 l0.length c0) l0 := Kd.R_mono ho0 (fun _ h => .inl h)
  go_enter Try.func119, Try.ntmps119
  go_wp2_with ((with_reducible refine gate_builtin (b := .append) rfl ?_); refine Kd.R_append_rows k93 (w0 := w0) w0.heap.size rfl _ _ 39 93 (.agg #[(.int .i64 0), (.int .i64 0)]) 16 rfl Try.underlying39 info93 rfl (by decide) (by omega) (.slice A0 l0.length c0) l0 l2 A2 1 c2 (fun k_ => P0_ k_ ∨ w.heap.size ≤ k_) (fun _ => False) rfl rfl hO hr2 (fun _ _ h => h) (fun _ h => h.elim) (fun _ h => .inr h) hB hB.size (by omega) ?_; intro v1 w1 hR hb hg hat)
  all_goals (go_ret; exact ⟨_, rfl, hR, hb, by cases A0 <;> exact hg⟩)

theorem impl_Lock_119_rowsize (w : World) (g : Nat) (cs : Array Value) : (w.setRow g cs).heap.size = w.heap.size := by simp only [World.setRow, Array.size_modify]
theorem impl_Lock_119_rowne (w : World) (g : Nat) (cs : Array Value) {k : Nat} (h : k ≠ g) : (w.setRow g cs).heap[k]? = w.heap[k]? := by
  simp only [World.setRow]
  rw [Array.getElem?_modify, if_neg (Ne.symm h)]
theorem impl_Lock_119_rowgrown (w : World) (g : Nat) (cs : Array Value) : w.grownBy (w.drew.setRow g cs) (some g) :=
  ⟨rfl, rfl, rfl, by show w.heap.size ≤ (w.heap.modify _ _).size; rw [Array.size_modify]; exact Nat.le_refl _, fun k hk hne => by
    show (w.drew.setRow g cs).heap[k]? = w.heap[k]?
    simp only [World.setRow]
    rw [Array.getElem?_modify, if_neg (fun h => hne (by rw [h]))]
    rfl⟩
def impl_Lock_119.f (l0 : List S93) (a1 : Int) (l2 : List S93) : Option (List S93) :=
  if 0 ≤ a1 ∧ a1 ≤ (l0.length : Int) ∧ l2.length = 1 ∧ l0.length < 8796093022207 then some (l0.take a1.toNat ++ l2 ++ l0.drop a1.toNat) else none
set_option maxHeartbeats 4000000 in
theorem impl_Lock_119.calls (P0_ : Nat → Prop) (u0 : Value) (l0 : List S93) (a1 : Int) (P2_ : Nat → Prop) (u2 : Value) (l2 : List S93) (r : List S93) (w0 w : World) (hB : Below w0.heap.size w0 w)
    (ho0 : Kd.R k93 93 w w0.heap.size P0_ u0 l0) (ha0 : ∀ k, P0_ k → ¬ P2_ k) (ho2 : Kd.R k93 93 w w0.heap.size P2_ u2 l2) (ha2 : ∀ k, P2_ k → ¬ P0_ k) (h : impl_Lock_119.f l0 a1 l2 = some r) :
    Calls Try.prog 119 #[u0, .int .i64 a1, u2] w fun e w' => ∃ v0_ : Value, e = .returned v0_ ∧ Kd.R k93 93 w' w0.heap.size (fun k_ => ((P0_ k_ ∨ P2_ k_) ∨ w.heap.size ≤ k_)) v0_ r ∧ Below w0.heap.size w0 w' ∧ Kept w w' (fun k_ => P0_ k_ ∨ P2_ k_) := by
  unfold impl_Lock_119.f at h
  split at h
  rotate_left 1
  · cases h
  rename_i hp
  obtain ⟨p0, p1, p2, p3⟩ := hp
  injection h with h
  subst h
  obtain ⟨i, rfl⟩ := Int.eq_ofNat_of_zero_le p0
  have hE : k93.E = [] := rfl
  have hsz : k93.sz = 2 := rfl
  rw [Int.toNat_natCast]
  rcases Kd.R_open hE ho2 with ⟨_, rfl⟩ | ⟨vb, vc, cv, rfl, hvb, hPv, hgv, hvn, hvc, hvs, hvr, hv1⟩
  · simp at p2
  have hc2 := (Kd.R_reads' ho2).2.2
  rw [p2] at hc2 ⊢
  rw [p2, hsz] at hvr hv1
  rw [hsz] at hvs
  have hvsz : 2 ≤ cv.size := by omega
  by_cases hin : i = l0.length
  · subst hin
    refine (impl_Lock_119_end P0_ u0 l0 (some ⟨vb, 0, none⟩) vc l2 w0 w hB ho0 hc2 p2 p3).mono fun e w' hh => ?_
    obtain ⟨v1, rfl, hR, hb, hg⟩ := hh
    refine ⟨v1, rfl, ?_, hb, Kept.of_grown hg (Kept.refl w _) (fun k hk => .inl (.inl (ho0.1 k hk)))⟩
    rw [List.take_length, List.drop_length, List.append_nil]
    exact Kd.R_mono hR (fun k hk => hk.elim (fun h => .inl (.inl h)) .inr)
  have hin' : i < l0.length := by omega
  rcases Kd.R_open hE ho0 with ⟨_, rfl⟩ | ⟨b, c, cur, rfl, hb0, hPb, hgb, hnc, hcm, hcs, hcr, hc1⟩
  · simp at hin'
  rw [hsz] at hcs hcr hc1
  have hcl : cur.toList.length = c * 2 := by rw [Array.length_toList, hcs]
  have hvb' : vb ≠ b := fun e => ha0 b hPb (e ▸ hPv)
  have hcm' : c ≤ 9223372036854775807 := by unfold maxLen at hcm; omega
  have hrl : (l0.take i ++ l2 ++ l0.drop i).length = l0.length + 1 := by rw [List.length_append, List.length_append, List.length_take, List.length_drop, p2]; omega
  have hreps : ∀ (W : World) (ok' : Nat → Prop), Reps (k93.M W w0.heap.size ok') 2 (l0.take i ++ l2 ++ l0.drop i) ((cur.toList.take (l0.length * 2)).take (i * 2) ++ cv.toList.take 2 ++ (cur.toList.take (l0.length * 2)).drop (i * 2)) := fun W ok' =>
    Kd.reps_append (Kd.reps_append (Kd.reps_take (hcr W ok') (by omega)) (by have := hvr W ok'; simpa using this)) (Kd.reps_drop (hcr W ok'))
  have htk : ∀ rest : List Value, ((cur.toList.take (l0.length * 2)).take (i * 2) ++ cv.toList.take 2 ++ (cur.toList.take (l0.length * 2)).drop (i * 2) ++ rest).take ((l0.length + 1) * 2) = (cur.toList.take (l0.length * 2)).take (i * 2) ++ cv.toList.take 2 ++ (cur.toList.take (l0.length * 2)).drop (i * 2) := fun rest => by
    have hl := (hreps w (fun _ => True)).1
    rw [hrl] at hl
    exact List.take_left' hl
  have hv1' : ∀ u ∈ cv.toList.take 2, u.oneCell' = true := by simpa using hv1
  by_cases hroom : l0.length + 1 ≤ c
  · refine (impl_Lock_119_shift b l0.length c i vb vc cur cv w hin' hroom hcm' hvb' hgb hgv hcs hvsz hc1 hv1').mono fun e w' hh => ?_
    obtain ⟨rfl, rfl⟩ := hh
    have hg := impl_Lock_119_rowgrown w b ((cur.toList.take (l0.length * 2)).take (i * 2) ++ cv.toList.take 2 ++ (cur.toList.take (l0.length * 2)).drop (i * 2) ++ cur.toList.drop (l0.length * 2 + 2)).toArray
    refine ⟨_, rfl, ?_, pw_below_grown hB (some b) hB.size hg (fun k hk => by injection hk with hk; omega), Kept.of_grown hg (Kept.refl w _) (fun k hk => by injection hk with hk; subst hk; exact .inl (.inl hPb))⟩
    have hR := Kd.R_close (d := k93) (e := 93) (base := w0.heap.size) (ok := fun k_ => ((P0_ k_ ∨ P2_ k_) ∨ w.heap.size ≤ k_)) (xs := l0.take i ++ l2 ++ l0.drop i) (cap := c) hb0 (.inl (.inl hPb))
      (setRow_heap w.drew b cur ((cur.toList.take (l0.length * 2)).take (i * 2) ++ cv.toList.take 2 ++ (cur.toList.take (l0.length * 2)).drop (i * 2) ++ cur.toList.drop (l0.length * 2 + 2)).toArray 93 (0, 0) hgb)
      (by rw [hrl]; exact hroom) hcm (by
        have hl := (hreps w (fun _ => True)).1
        rw [hrl] at hl
        rw [hsz, List.size_toArray, List.length_append, hl, List.length_drop, hcl]; omega) (by rw [hsz, hrl]; show Reps _ _ _ (List.take _ _); rw [htk]; exact hreps _ _)
    rw [hrl] at hR
    exact hR
  · have hG := grownCap_ge w (l0.length + 1) c 93
    have hGm := grownCap_le_maxLen w (l0.length + 1) c 93 (by unfold maxLen; omega)
    obtain ⟨ROW, hROW⟩ : ∃ ROW : Array Value, ROW = (cur.toList.take (i * 2)).toArray ++ Builtin.zeroCells (Value.agg #[.int .i64 0, .int .i64 0]).cells (l0.length + 1 - i) ++ Builtin.zeroCells (Value.agg #[.int .i64 0, .int .i64 0]).cells (grownCap w (l0.length + 1) c 93 - (l0.length + 1)) := ⟨_, rfl⟩
    have htl : (cur.toList.take (i * 2)).length = i * 2 := by rw [List.length_take, hcl]; omega
    have hRl : ROW.toList.length = grownCap w (l0.length + 1) c 93 * 2 := by
      rw [Array.length_toList, hROW]
      simp [Builtin.zeroCells, Value.cells, htl]
      omega
    have hRt : ROW.toList.take (i * 2) = cur.toList.take (i * 2) := by
      rw [hROW, Array.toList_append, Array.toList_append, List.append_assoc]
      exact List.take_left' htl
    have hvl : (cv.toList.take 2).length = 2 := by rw [List.length_take, Array.length_toList]; omega
    have hfin := grow_cells ROW.toList cur.toList (cv.toList.take 2) (i * 2) 2 (l0.length * 2) (by omega) (by rw [hRl]; omega) (by rw [hcl]; omega) hvl hRt
    rw [hvl, show ((cur.toList.take (l0.length * 2)).drop (i * 2)).length = (l0.length - i) * 2 from by rw [List.length_drop, List.length_take, hcl]; omega] at hfin
    refine (impl_Lock_119_grow b l0.length c i vb vc cur cv w hin' hnc (by omega) (by omega) hgb hgv hcs hvsz hc1 hv1' _ rfl ROW hROW).mono fun e w' hh => ?_
    obtain ⟨rfl, rfl⟩ := hh
    rw [show (i + 1) * 2 = i * 2 + 2 from by omega, hfin]
    obtain ⟨NC, hNC⟩ : ∃ NC : List Value, NC = (cur.toList.take (l0.length * 2)).take (i * 2) ++ cv.toList.take 2 ++ (cur.toList.take (l0.length * 2)).drop (i * 2) ++ ROW.toList.drop (l0.length * 2 + 2) := ⟨_, rfl⟩
    rw [← hNC]
    have hb : Below w.heap.size w (((w.alloc (.cells ROW 93)).drew.setRow w.heap.size (ROW.toList.take (i * 2) ++ cv.toList.take 2 ++ ROW.toList.drop (i * 2 + 2)).toArray).drew.setRow w.heap.size NC.toArray) := by
      refine ⟨rfl, rfl, rfl, ?_, fun k hk => ?_⟩
      · rw [impl_Lock_119_rowsize]
        show w.heap.size ≤ ((w.alloc (.cells ROW 93)).drew.setRow w.heap.size _).heap.size
        rw [impl_Lock_119_rowsize]
        show w.heap.size ≤ (w.heap.push _).size
        rw [Array.size_push]; omega
      · rw [impl_Lock_119_rowne _ _ _ (by omega)]
        show ((w.alloc (.cells ROW 93)).drew.setRow w.heap.size _).heap[k]? = w.heap[k]?
        rw [impl_Lock_119_rowne _ _ _ (by omega)]
        show (w.heap.push _)[k]? = w.heap[k]?
        rw [Array.getElem?_push_lt hk]
        exact (Array.getElem?_eq_getElem hk).symm
    refine ⟨_, rfl, ?_, below_then hB hB.size hb, Kept.of_below hb _⟩
    have hR := Kd.R_close (d := k93) (e := 93) (base := w0.heap.size) (ok := fun k_ => ((P0_ k_ ∨ P2_ k_) ∨ w.heap.size ≤ k_)) (xs := l0.take i ++ l2 ++ l0.drop i) (cap := grownCap w (l0.length + 1) c 93) (g := w.heap.size) hB.size (.inr (Nat.le_refl _))
      (setRow_heap ((w.alloc (.cells ROW 93)).drew.setRow w.heap.size (ROW.toList.take (i * 2) ++ cv.toList.take 2 ++ ROW.toList.drop (i * 2 + 2)).toArray).drew w.heap.size _ NC.toArray 93 (0, 0)
        (setRow_heap (w.alloc (.cells ROW 93)).drew w.heap.size ROW _ 93 (0, 0) (by show (w.heap.push _)[w.heap.size]? = _; simp)))
      (by rw [hrl]; exact hG) hGm (by
        have hl := (hreps w (fun _ => True)).1
        rw [hrl] at hl
        rw [hsz, List.size_toArray, hNC, List.length_append, hl, List.length_drop, hRl]; omega) (by rw [hsz, hrl]; show Reps _ _ _ (List.take _ NC); rw [hNC, htk]; exact hreps _ _)
    rw [hrl] at hR
    exact hR

end

/-! ### impl_AcquireLock: function 64 -/
def impl_AcquireLock.j0 : Nat → List (S93) → Int → Int → List (S93) → Bool → Option ((List (S93)) × Bool)
  | 0, _, _, _, _, _ => none
  | k + 1, x0, x1, x2, x8, x25 => if x25 = true then (some (x8, false)) else ((impl_Lock_int.f k x0 x1).bind fun bt215 => (if bt215.2 = true then (if 0 ≤ bt215.1 then (if bt215.1 < (x0.length : Int) then (some (x8, (((rd_T93 x0 bt215.1).f1) == x2))) else (none)) else (none)) else ((impl_Lock_119.f x8 bt215.1 (([(⟨x1, x2⟩ : S93)] : List (S93)))).bind fun t221 => (some (t221, true)))))
def impl_AcquireLock.f (k : Nat) (l0 : List (S93)) (a1 : Int) (a2 : Int) : Option ((List (S93)) × Bool) := (impl_Lock_75.f l0).bind fun t209 => ((impl_AreLocks.f k l0).bind fun t212 => (if t212 = true then ((impl_isKey.f a1).bind fun t213 => (if t213 = true then ((impl_isID.f a2).bind fun t214 => (impl_AcquireLock.j0 k l0 a1 a2 t209 (!t214))) else (impl_AcquireLock.j0 k l0 a1 a2 t209 true))) else (impl_AcquireLock.j0 k l0 a1 a2 t209 true)))
theorem impl_AcquireLock.mono_l : ∀ k, (∀ y0 y1 y2 y3 y4, LeO (impl_AcquireLock.j0 k y0 y1 y2 y3 y4) (impl_AcquireLock.j0 (k + 1) y0 y1 y2 y3 y4))
  | 0 => fun _ _ _ _ _ r h => by simp [impl_AcquireLock.j0] at h
  | k + 1 => by
    have ih0 := impl_AcquireLock.mono_l k
    · intro y0 y1 y2 y3 y4
      unfold impl_AcquireLock.j0
      repeat' first
      | (with_reducible exact ih0 _ _ _ _ _)
      | (with_reducible exact impl_AreLocks.mono _ _)
      | (with_reducible exact impl_Lock_int.mono _ _ _)
      | (with_reducible exact LeO.refl _)
      | (with_reducible exact LeO.none _)
      | (with_reducible refine LeO.ite ?_ ?_)
      | (with_reducible refine LeO.bind ?_ (fun _ => ?_))
      | exact ih0 _ _ _ _ _
      | exact impl_AreLocks.mono _ _
      | exact impl_Lock_int.mono _ _ _
      | exact LeO.none _
      | refine LeO.ite ?_ ?_
      | refine LeO.bind ?_ (fun _ => ?_)
theorem impl_AcquireLock.mono : ∀ a0 a1 a2 k, LeO (impl_AcquireLock.f k a0 a1 a2) (impl_AcquireLock.f (k + 1) a0 a1 a2) := by
  intro a0 a1 a2 k
  have ih0 := impl_AcquireLock.mono_l k
  unfold impl_AcquireLock.f
  repeat' first
      | (with_reducible exact ih0 _ _ _ _ _)
      | (with_reducible exact impl_AreLocks.mono _ _)
      | (with_reducible exact impl_Lock_int.mono _ _ _)
      | (with_reducible exact LeO.refl _)
      | (with_reducible exact LeO.none _)
      | (with_reducible refine LeO.ite ?_ ?_)
      | (with_reducible refine LeO.bind ?_ (fun _ => ?_))
      | exact ih0 _ _ _ _ _
      | exact impl_AreLocks.mono _ _
      | exact impl_Lock_int.mono _ _ _
      | exact LeO.none _
      | refine LeO.ite ?_ ?_
      | refine LeO.bind ?_ (fun _ => ?_)
set_option maxHeartbeats 8000000 in
set_option maxRecDepth 100000 in
theorem impl_AcquireLock.calls (k : Nat) (A0 : Option Addr) (c0 : Nat) (l0 : List (S93)) (a1 : Int) (a2 : Int) (r1 : List (S93)) (r2 : Bool) (w : World) (hr0 : Kd.C k93 w A0 l0.length l0) (hc0 : l0.length ≤ c0) (h : impl_AcquireLock.f k l0 a1 a2 = some (r1, r2)) :
    Calls Try.prog 64 #[.slice A0 l0.length c0, .int .i64 a1, .int .i64 a2] w fun e w' => ∃ v0_ : Value, e = .returned (.tuple #[v0_, .bool r2]) ∧ Kd.R k93 93 w' w.heap.size (fun _ => True) v0_ r1 ∧ Below w.heap.size w w' := by
  have hu93 := Try.underlying93
  have HR0 := Aside0.mk hr0
  have HC0 := Aside0.mk hc0
  clear hr0 hc0
  have HB := Aside0.mk (Below.refl w.heap.size w)
  have H : ((impl_Lock_75.f l0).bind fun t209 => ((impl_AreLocks.f k l0).bind fun t212 => (if t212 = true then ((impl_isKey.f a1).bind fun t213 => (if t213 = true then ((impl_isID.f a2).bind fun t214 => (impl_AcquireLock.j0 k l0 a1 a2 t209 (!t214))) else (impl_AcquireLock.j0 k l0 a1 a2 t209 true))) else (impl_AcquireLock.j0 k l0 a1 a2 t209 true)))) = some (r1, r2) := h
  clear h
  replace H := Option.bind_eq_some_iff.mp H
  obtain ⟨t209, A40, H⟩ := H
  replace H : ((impl_AreLocks.f k l0).bind fun t212 => (if t212 = true then ((impl_isKey.f a1).bind fun t213 => (if t213 = true then ((impl_isID.f a2).bind fun t214 => (impl_AcquireLock.j0 k l0 a1 a2 t209 (!t214))) else (impl_AcquireLock.j0 k l0 a1 a2 t209 true))) else (impl_AcquireLock.j0 k l0 a1 a2 t209 true))) = some (r1, r2) := H
  have A4 := Aside0.mk A40
  clear A40
  have HC5 := Aside0.mk H
  clear H
  go_enter Try.func64, Try.ntmps64
  go_upto_region 2 with (first | (go_at_call 75; (with_reducible refine (impl_Lock_75.calls _ _ l0 t209 _ ?side1 ?side2 A4.out).mono ?_); (case side1 => repeat (first | exact HR0.out | (with_reducible refine Kd.C_alloc ?_ _) | (with_reducible refine Kd.C_drewN ?_ _) | (with_reducible refine Kd.C_drew ?_))); (case side2 => exact HC0.out); rintro e w6 ⟨v210, rfl, ho0, hb⟩; have n0_ := Aside0.mk (Kd.R_lower ho0 (below_size (by repeat (first | (with_reducible first | exact HB.out | apply below_alloc | apply pw_below_drewN | apply below_drew1) | exact HB.out)))); have n1_ := Aside0.mk (below_step (by repeat (first | (with_reducible first | exact HB.out | apply below_alloc | apply pw_below_drewN | apply below_drew1) | exact HB.out)) hb); clear HB; have HO211 := n0_; have HB := n1_; clear n0_ n1_; (try clear hb); (try clear hb2); (try clear hk); (try clear hi); (try clear ho0)))
  repeat (go_quiet (first | (go_at_call 75; (with_reducible refine (impl_Lock_75.calls _ _ l0 t209 _ ?side1 ?side2 A4.out).mono ?_); (case side1 => repeat (first | exact HR0.out | (with_reducible refine Kd.C_alloc ?_ _) | (with_reducible refine Kd.C_drewN ?_ _) | (with_reducible refine Kd.C_drew ?_))); (case side2 => exact HC0.out); rintro e w6 ⟨v210, rfl, ho0, hb⟩; have n0_ := Aside0.mk (Kd.R_lower ho0 (below_size (by repeat (first | (with_reducible first | exact HB.out | apply below_alloc | apply pw_below_drewN | apply below_drew1) | exact HB.out)))); have n1_ := Aside0.mk (below_step (by repeat (first | (with_reducible first | exact HB.out | apply below_alloc | apply pw_below_drewN | apply below_drew1) | exact HB.out)) hb); clear HB; have HO211 := n0_; have HB := n1_; clear n0_ n1_; (try clear hb); (try clear hb2); (try clear hk); (try clear hi); (try clear ho0))); go_upto_region 2 with (first | (go_at_call 75; (with_reducible refine (impl_Lock_75.calls _ _ l0 t209 _ ?side1 ?side2 A4.out).mono ?_); (case side1 => repeat (first | exact HR0.out | (with_reducible refine Kd.C_alloc ?_ _) | (with_reducible refine Kd.C_drewN ?_ _) | (with_reducible refine Kd.C_drew ?_))); (case side2 => exact HC0.out); rintro e w6 ⟨v210, rfl, ho0, hb⟩; have n0_ := Aside0.mk (Kd.R_lower ho0 (below_size (by repeat (first | (with_reducible first | exact HB.out | apply below_alloc | apply pw_below_drewN | apply below_drew1) | exact HB.out)))); have n1_ := Aside0.mk (below_step (by repeat (first | (with_reducible first | exact HB.out | apply below_alloc | apply pw_below_drewN | apply below_drew1) | exact HB.out)) hb); clear HB; have HO211 := n0_; have HB := n1_; clear n0_ n1_; (try clear hb); (try clear hb2); (try clear hk); (try clear hi); (try clear ho0))))
  (try simp only [Act.put, List.setIfInBounds_toArray, List.set_cons_zero, List.set_cons_succ])
  go_cut [25] (fun v25 wc => ∃ (kq : Nat) (x25_4 : Bool), v25 = .bool x25_4 ∧ Aside0 (impl_AcquireLock.j0 kq l0 a1 a2 t209 x25_4 = some (r1, r2)) ∧ Aside0 (kq ≤ k) ∧ Aside0 (Kd.R k93 93 wc w.heap.size (fun _ => True) v210 t209) ∧ Aside0 (Below w.heap.size w wc))
  case first =>
    have H := HC5.out
    clear HC5
    replace H := Option.bind_eq_some_iff.mp H
    obtain ⟨t212, A70, H⟩ := H
    replace H : (if t212 = true then ((impl_isKey.f a1).bind fun t213 => (if t213 = true then ((impl_isID.f a2).bind fun t214 => (impl_AcquireLock.j0 k l0 a1 a2 t209 (!t214))) else (impl_AcquireLock.j0 k l0 a1 a2 t209 true))) else (impl_AcquireLock.j0 k l0 a1 a2 t209 true)) = some (r1, r2) := H
    have A7 := Aside0.mk A70
    clear A70
    by_cases c8 : t212 = true
    · subst c8
      have H1 : ((impl_isKey.f a1).bind fun t213 => (if t213 = true then ((impl_isID.f a2).bind fun t214 => (impl_AcquireLock.j0 k l0 a1 a2 t209 (!t214))) else (impl_AcquireLock.j0 k l0 a1 a2 t209 true))) = some (r1, r2) := by rw [if_pos rfl] at H; exact H
      clear H
      have H := H1
      clear H1
      replace H := Option.bind_eq_some_iff.mp H
      obtain ⟨t213, A90, H⟩ := H
      replace H : (if t213 = true then ((impl_isID.f a2).bind fun t214 => (impl_AcquireLock.j0 k l0 a1 a2 t209 (!t214))) else (impl_AcquireLock.j0 k l0 a1 a2 t209 true)) = some (r1, r2) := H
      have A9 := Aside0.mk A90
      clear A90
      by_cases c10 : t213 = true
      · subst c10
        have H1 : ((impl_isID.f a2).bind fun t214 => (impl_AcquireLock.j0 k l0 a1 a2 t209 (!t214))) = some (r1, r2) := by rw [if_pos rfl] at H; exact H
        clear H
        have H := H1
        clear H1
        replace H := Option.bind_eq_some_iff.mp H
        obtain ⟨t214, A110, H⟩ := H
        replace H : (impl_AcquireLock.j0 k l0 a1 a2 t209 (!t214)) = some (r1, r2) := H
        have A11 := Aside0.mk A110
        clear A110
        have H' := Aside0.mk H
        clear H
        go_wp2_with (first | (go_at_call 116; (with_reducible refine (impl_AreLocks.calls k _ _ l0 true _ ?side1 ?side2 A7.out).mono ?_); (case side1 => repeat (first | exact (Kd.C_below HR0.out HB.out) | (with_reducible refine Kd.C_alloc ?_ _) | (with_reducible refine Kd.C_drewN ?_ _) | (with_reducible refine Kd.C_drew ?_))); (case side2 => exact HC0.out); rintro e w12 ⟨rfl, hb⟩; have n0_ := Aside0.mk (Kd.R_below (by (with_reducible repeat (first | apply Kd.R_alloc | apply Kd.R_drewN | apply Kd.R_drew)); exact HO211.out) hb); have n1_ := Aside0.mk (below_step (by repeat (first | (with_reducible first | exact HB.out | apply below_alloc | apply pw_below_drewN | apply below_drew1) | exact HB.out)) hb); clear HO211; clear HB; have HO211 := n0_; have HB := n1_; clear n0_ n1_; (try clear hb); (try clear hb2); (try clear hk); (try clear hi)) | (go_at_call 89; (with_reducible refine (impl_isKey.calls a1 true _ A9.out).mono ?_); rintro e w' ⟨rfl, ⟨nd, rfl⟩⟩; (try first | exact ⟨rfl, _, World.drewN_drewN _ _ _⟩ | exact ⟨rfl, _, Eq.trans (World.drewN_drewN _ _ _) (congrArg (World.drewN _) (Nat.add_assoc _ _ _))⟩)) | (go_at_call 102; (with_reducible refine (impl_isID.calls a2 t214 _ A11.out).mono ?_); rintro e w' ⟨rfl, ⟨nd, rfl⟩⟩; (try first | exact ⟨rfl, _, World.drewN_drewN _ _ _⟩ | exact ⟨rfl, _, Eq.trans (World.drewN_drewN _ _ _) (congrArg (World.drewN _) (Nat.add_assoc _ _ _))⟩)))
        repeat (go_quiet (first | (go_at_call 116; (with_reducible refine (impl_AreLocks.calls k _ _ l0 true _ ?side1 ?side2 A7.out).mono ?_); (case side1 => repeat (first | exact (Kd.C_below HR0.out HB.out) | (with_reducible refine Kd.C_alloc ?_ _) | (with_reducible refine Kd.C_drewN ?_ _) | (with_reducible refine Kd.C_drew ?_))); (case side2 => exact HC0.out); rintro e w12 ⟨rfl, hb⟩; have n0_ := Aside0.mk (Kd.R_below (by (with_reducible repeat (first | apply Kd.R_alloc | apply Kd.R_drewN | apply Kd.R_drew)); exact HO211.out) hb); have n1_ := Aside0.mk (below_step (by repeat (first | (with_reducible first | exact HB.out | apply below_alloc | apply pw_below_drewN | apply below_drew1) | exact HB.out)) hb); clear HO211; clear HB; have HO211 := n0_; have HB := n1_; clear n0_ n1_; (try clear hb); (try clear hb2); (try clear hk); (try clear hi)) | (go_at_call 89; (with_reducible refine (impl_isKey.calls a1 true _ A9.out).mono ?_); rintro e w' ⟨rfl, ⟨nd, rfl⟩⟩; (try first | exact ⟨rfl, _, World.drewN_drewN _ _ _⟩ | exact ⟨rfl, _, Eq.trans (World.drewN_drewN _ _ _) (congrArg (World.drewN _) (Nat.add_assoc _ _ _))⟩)) | (go_at_call 102; (with_reducible refine (impl_isID.calls a2 t214 _ A11.out).mono ?_); rintro e w' ⟨rfl, ⟨nd, rfl⟩⟩; (try first | exact ⟨rfl, _, World.drewN_drewN _ _ _⟩ | exact ⟨rfl, _, Eq.trans (World.drewN_drewN _ _ _) (congrArg (World.drewN _) (Nat.add_assoc _ _ _))⟩))); try go_wp2_with (first | (go_at_call 116; (with_reducible refine (impl_AreLocks.calls k _ _ l0 true _ ?side1 ?side2 A7.out).mono ?_); (case side1 => repeat (first | exact (Kd.C_below HR0.out HB.out) | (with_reducible refine Kd.C_alloc ?_ _) | (with_reducible refine Kd.C_drewN ?_ _) | (with_reducible refine Kd.C_drew ?_))); (case side2 => exact HC0.out); rintro e w12 ⟨rfl, hb⟩; have n0_ := Aside0.mk (Kd.R_below (by (with_reducible repeat (first | apply Kd.R_alloc | apply Kd.R_drewN | apply Kd.R_drew)); exact HO211.out) hb); have n1_ := Aside0.mk (below_step (by repeat (first | (with_reducible first | exact HB.out | apply below_alloc | apply pw_below_drewN | apply below_drew1) | exact HB.out)) hb); clear HO211; clear HB; have HO211 := n0_; have HB := n1_; clear n0_ n1_; (try clear hb); (try clear hb2); (try clear hk); (try clear hi)) | (go_at_call 89; (with_reducible refine (impl_isKey.calls a1 true _ A9.out).mono ?_); rintro e w' ⟨rfl, ⟨nd, rfl⟩⟩; (try first | exact ⟨rfl, _, World.drewN_drewN _ _ _⟩ | exact ⟨rfl, _, Eq.trans (World.drewN_drewN _ _ _) (congrArg (World.drewN _) (Nat.add_assoc _ _ _))⟩)) | (go_at_call 102; (with_reducible refine (impl_isID.calls a2 t214 _ A11.out).mono ?_); rintro e w' ⟨rfl, ⟨nd, rfl⟩⟩; (try first | exact ⟨rfl, _, World.drewN_drewN _ _ _⟩ | exact ⟨rfl, _, Eq.trans (World.drewN_drewN _ _ _) (congrArg (World.drewN _) (Nat.add_assoc _ _ _))⟩))))
        go_meet
        case rel => exact ⟨_, (!t214), (by first | rfl | (simp; done) | (simp [*]; done)), H', ⟨by first | omega | exact Nat.le_refl _⟩, ⟨by (with_reducible repeat (first | apply Kd.R_alloc | apply Kd.R_drewN | apply Kd.R_drew)); exact HO211.out⟩, ⟨by repeat (first | (with_reducible first | exact HB.out | apply below_alloc | apply pw_below_drewN | apply below_drew1) | exact HB.out)⟩⟩
      · replace c10 := Bool.eq_false_iff.mpr c10
        subst c10
        have H1 : (impl_AcquireLock.j0 k l0 a1 a2 t209 true) = some (r1, r2) := by rw [if_neg (show ¬ (false = true) by decide)] at H; exact H
        clear H
        have H := H1
        clear H1
        have H' := Aside0.mk H
        clear H
        go_wp2_with (first | (go_at_call 116; (with_reducible refine (impl_AreLocks.calls k _ _ l0 true _ ?side1 ?side2 A7.out).mono ?_); (case side1 => repeat (first | exact (Kd.C_below HR0.out HB.out) | (with_reducible refine Kd.C_alloc ?_ _) | (with_reducible refine Kd.C_drewN ?_ _) | (with_reducible refine Kd.C_drew ?_))); (case side2 => exact HC0.out); rintro e w13 ⟨rfl, hb⟩; have n0_ := Aside0.mk (Kd.R_below (by (with_reducible repeat (first | apply Kd.R_alloc | apply Kd.R_drewN | apply Kd.R_drew)); exact HO211.out) hb); have n1_ := Aside0.mk (below_step (by repeat (first | (with_reducible first | exact HB.out | apply below_alloc | apply pw_below_drewN | apply below_drew1) | exact HB.out)) hb); clear HO211; clear HB; have HO211 := n0_; have HB := n1_; clear n0_ n1_; (try clear hb); (try clear hb2); (try clear hk); (try clear hi)) | (go_at_call 89; (with_reducible refine (impl_isKey.calls a1 false _ A9.out).mono ?_); rintro e w' ⟨rfl, ⟨nd, rfl⟩⟩; (try first | exact ⟨rfl, _, World.drewN_drewN _ _ _⟩ | exact ⟨rfl, _, Eq.trans (World.drewN_drewN _ _ _) (congrArg (World.drewN _) (Nat.add_assoc _ _ _))⟩)))
        repeat (go_quiet (first | (go_at_call 116; (with_reducible refine (impl_AreLocks.calls k _ _ l0 true _ ?side1 ?side2 A7.out).mono ?_); (case side1 => repeat (first | exact (Kd.C_below HR0.out HB.out) | (with_reducible refine Kd.C_alloc ?_ _) | (with_reducible refine Kd.C_drewN ?_ _) | (with_reducible refine Kd.C_drew ?_))); (case side2 => exact HC0.out); rintro e w13 ⟨rfl, hb⟩; have n0_ := Aside0.mk (Kd.R_below (by (with_reducible repeat (first | apply Kd.R_alloc | apply Kd.R_drewN | apply Kd.R_drew)); exact HO211.out) hb); have n1_ := Aside0.mk (below_step (by repeat (first | (with_reducible first | exact HB.out | apply below_alloc | apply pw_below_drewN | apply below_drew1) | exact HB.out)) hb); clear HO211; clear HB; have HO211 := n0_; have HB := n1_; clear n0_ n1_; (try clear hb); (try clear hb2); (try clear hk); (try clear hi)) | (go_at_call 89; (with_reducible refine (impl_isKey.calls a1 false _ A9.out).mono ?_); rintro e w' ⟨rfl, ⟨nd, rfl⟩⟩; (try first | exact ⟨rfl, _, World.drewN_drewN _ _ _⟩ | exact ⟨rfl, _, Eq.trans (World.drewN_drewN _ _ _) (congrArg (World.drewN _) (Nat.add_assoc _ _ _))⟩))); try go_wp2_with (first | (go_at_call 116; (with_reducible refine (impl_AreLocks.calls k _ _ l0 true _ ?side1 ?side2 A7.out).mono ?_); (case side1 => repeat (first | exact (Kd.C_below HR0.out HB.out) | (with_reducible refine Kd.C_alloc ?_ _) | (with_reducible refine Kd.C_drewN ?_ _) | (with_reducible refine Kd.C_drew ?_))); (case side2 => exact HC0.out); rintro e w13 ⟨rfl, hb⟩; have n0_ := Aside0.mk (Kd.R_below (by (with_reducible repeat (first | apply Kd.R_alloc | apply Kd.R_drewN | apply Kd.R_drew)); exact HO211.out) hb); have n1_ := Aside0.mk (below_step (by repeat (first | (with_reducible first | exact HB.out | apply below_alloc | apply pw_below_drewN | apply below_drew1) | exact HB.out)) hb); clear HO211; clear HB; have HO211 := n0_; have HB := n1_; clear n0_ n1_; (try clear hb); (try clear hb2); (try clear hk); (try clear hi)) | (go_at_call 89; (with_reducible refine (impl_isKey.calls a1 false _ A9.out).mono ?_); rintro e w' ⟨rfl, ⟨nd, rfl⟩⟩; (try first | exact ⟨rfl, _, World.drewN_drewN _ _ _⟩ | exact ⟨rfl, _, Eq.trans (World.drewN_drewN _ _ _) (congrArg (World.drewN _) (Nat.add_assoc _ _ _))⟩))))
        go_meet
        case rel => exact ⟨_, (true), (by first | rfl | (simp; done) | (simp [*]; done)), H', ⟨by first | omega | exact Nat.le_refl _⟩, ⟨by (with_reducible repeat (first | apply Kd.R_alloc | apply Kd.R_drewN | apply Kd.R_drew)); exact HO211.out⟩, ⟨by repeat (first | (with_reducible first | exact HB.out | apply below_alloc | apply pw_below_drewN | apply below_drew1) | exact HB.out)⟩⟩
    · replace c8 := Bool.eq_false_iff.mpr c8
      subst c8
      have H1 : (impl_AcquireLock.j0 k l0 a1 a2 t209 true) = some (r1, r2) := by rw [if_neg (show ¬ (false = true) by decide)] at H; exact H
      clear H
      have H := H1
      clear H1
      have H' := Aside0.mk H
      clear H
      go_wp2_with (first | (go_at_call 116; (with_reducible refine (impl_AreLocks.calls k _ _ l0 false _ ?side1 ?side2 A7.out).mono ?_); (case side1 => repeat (first | exact (Kd.C_below HR0.out HB.out) | (with_reducible refine Kd.C_alloc ?_ _) | (with_reducible refine Kd.C_drewN ?_ _) | (with_reducible refine Kd.C_drew ?_))); (case side2 => exact HC0.out); rintro e w14 ⟨rfl, hb⟩; have n0_ := Aside0.mk (Kd.R_below (by (with_reducible repeat (first | apply Kd.R_alloc | apply Kd.R_drewN | apply Kd.R_drew)); exact HO211.out) hb); have n1_ := Aside0.mk (below_step (by repeat (first | (with_reducible first | exact HB.out | apply below_alloc | apply pw_below_drewN | apply below_drew1) | exact HB.out)) hb); clear HO211; clear HB; have HO211 := n0_; have HB := n1_; clear n0_ n1_; (try clear hb); (try clear hb2); (try clear hk); (try clear hi)))
      repeat (go_quiet (first | (go_at_call 116; (with_reducible refine (impl_AreLocks.calls k _ _ l0 false _ ?side1 ?side2 A7.out).mono ?_); (case side1 => repeat (first | exact (Kd.C_below HR0.out HB.out) | (with_reducible refine Kd.C_alloc ?_ _) | (with_reducible refine Kd.C_drewN ?_ _) | (with_reducible refine Kd.C_drew ?_))); (case side2 => exact HC0.out); rintro e w14 ⟨rfl, hb⟩; have n0_ := Aside0.mk (Kd.R_below (by (with_reducible repeat (first | apply Kd.R_alloc | apply Kd.R_drewN | apply Kd.R_drew)); exact HO211.out) hb); have n1_ := Aside0.mk (below_step (by repeat (first | (with_reducible first | exact HB.out | apply below_alloc | apply pw_below_drewN | apply below_drew1) | exact HB.out)) hb); clear HO211; clear HB; have HO211 := n0_; have HB := n1_; clear n0_ n1_; (try clear hb); (try clear hb2); (try clear hk); (try clear hi))); try go_wp2_with (first | (go_at_call 116; (with_reducible refine (impl_AreLocks.calls k _ _ l0 false _ ?side1 ?side2 A7.out).mono ?_); (case side1 => repeat (first | exact (Kd.C_below HR0.out HB.out) | (with_reducible refine Kd.C_alloc ?_ _) | (with_reducible refine Kd.C_drewN ?_ _) | (with_reducible refine Kd.C_drew ?_))); (case side2 => exact HC0.out); rintro e w14 ⟨rfl, hb⟩; have n0_ := Aside0.mk (Kd.R_below (by (with_reducible repeat (first | apply Kd.R_alloc | apply Kd.R_drewN | apply Kd.R_drew)); exact HO211.out) hb); have n1_ := Aside0.mk (below_step (by repeat (first | (with_reducible first | exact HB.out | apply below_alloc | apply pw_below_drewN | apply below_drew1) | exact HB.out)) hb); clear HO211; clear HB; have HO211 := n0_; have HB := n1_; clear n0_ n1_; (try clear hb); (try clear hb2); (try clear hk); (try clear hi))))
      go_meet
      case rel => exact ⟨_, (true), (by first | rfl | (simp; done) | (simp [*]; done)), H', ⟨by first | omega | exact Nat.le_refl _⟩, ⟨by (with_reducible repeat (first | apply Kd.R_alloc | apply Kd.R_drewN | apply Kd.R_drew)); exact HO211.out⟩, ⟨by repeat (first | (with_reducible first | exact HB.out | apply below_alloc | apply pw_below_drewN | apply below_drew1) | exact HB.out)⟩⟩
  case rest =>
    clear HC5
    try clear c1
    try clear p2
    try clear c6
    try clear c8
    try clear c10
    obtain ⟨kq, x25_4, rfl, HA, HJ4, HO_8, HB⟩ := hcut
    cases kq with
    | zero => exact absurd HA.out (by simp [impl_AcquireLock.j0])
    | succ kj4 =>
      have H := HA.out
      clear HA
      simp only [impl_AcquireLock.j0] at H
      by_cases c15 : x25_4 = true
      · subst c15
        have H1 : (some (t209, false)) = some (r1, r2) := by rw [if_pos rfl] at H; exact H
        clear H
        have H := H1
        clear H1
        simp only [Option.some.injEq, Prod.mk.injEq] at H
        obtain ⟨rfl, rfl⟩ := H
        go_wp2
        repeat (go_quiet (fail); try go_wp2)
        go_ret2
        exact ⟨_, by first | rfl | (simp [errW_none, errW_some] <;> rfl) | (simp [*, errW_none, errW_some] <;> rfl), by (with_reducible repeat (first | apply Kd.R_alloc | apply Kd.R_drewN | apply Kd.R_drew)); exact HO_8.out, by repeat (first | (with_reducible first | exact HB.out | apply below_alloc | apply pw_below_drewN | apply below_drew1) | exact HB.out)⟩
      · replace c15 := Bool.eq_false_iff.mpr c15
        subst c15
        have H1 : ((impl_Lock_int.f kj4 l0 a1).bind fun bt215 => (if bt215.2 = true then (if 0 ≤ bt215.1 then (if bt215.1 < (l0.length : Int) then (some (t209, (((rd_T93 l0 bt215.1).f1) == a2))) else (none)) else (none)) else ((impl_Lock_119.f t209 bt215.1 (([(⟨a1, a2⟩ : S93)] : List (S93)))).bind fun t221 => (some (t221, true))))) = some (r1, r2) := by rw [if_neg (show ¬ (false = true) by decide)] at H; exact H
        clear H
        have H := H1
        clear H1
        replace H := Option.bind_eq_some_iff.mp H
        obtain ⟨⟨t215, t216⟩, A160, H⟩ := H
        replace H : (if t216 = true then (if 0 ≤ t215 then (if t215 < (l0.length : Int) then (some (t209, (((rd_T93 l0 t215).f1) == a2))) else (none)) else (none)) else ((impl_Lock_119.f t209 t215 (([(⟨a1, a2⟩ : S93)] : List (S93)))).bind fun t221 => (some (t221, true)))) = some (r1, r2) := H
        have A16 := Aside0.mk A160
        clear A160
        by_cases c17 : t216 = true
        · subst c17
          have H1 : (if 0 ≤ t215 then (if t215 < (l0.length : Int) then (some (t209, (((rd_T93 l0 t215).f1) == a2))) else (none)) else (none)) = some (r1, r2) := by rw [if_pos rfl] at H; exact H
          clear H
          have H := H1
          clear H1
          by_cases c18 : 0 ≤ t215
          · rw [if_pos c18] at H
            have c18b0 : decide (0 ≤ t215) = true := decide_eq_true c18
            clear c18
            by_cases c19 : t215 < (l0.length : Int)
            · rw [if_pos c19] at H
              have c19b0 : decide (t215 < (l0.length : Int)) = true := decide_eq_true c19
              clear c19
              simp only [Option.some.injEq, Prod.mk.injEq] at H
              obtain ⟨rfl, rfl⟩ := H
              go_wp2_with (first | (go_at_call 117; (with_reducible refine (impl_Lock_int.calls kj4 _ _ l0 a1  t215 true _ ?side1 ?side2 A16.out).mono ?_); (case side1 => repeat (first | exact (Kd.C_below HR0.out HB.out) | (with_reducible refine Kd.C_alloc ?_ _) | (with_reducible refine Kd.C_drewN ?_ _) | (with_reducible refine Kd.C_drew ?_))); (case side2 => exact HC0.out); rintro e w20 ⟨rfl, hb⟩; have n0_ := Aside0.mk (Kd.R_below (by (with_reducible repeat (first | apply Kd.R_alloc | apply Kd.R_drewN | apply Kd.R_drew)); exact HO_8.out) hb); have n1_ := Aside0.mk (below_step (by repeat (first | (with_reducible first | exact HB.out | apply below_alloc | apply pw_below_drewN | apply below_drew1) | exact HB.out)) hb); clear HO_8; clear HB; have HO_8 := n0_; have HB := n1_; clear n0_ n1_; (try clear hb); (try clear hb2); (try clear hk); (try clear hi); have p217 : 0 ≤ (t215 : Int) := of_decide_eq_true (by first | (with_reducible assumption) | assumption); have q217 : t215 < (l0.length : Int) := of_decide_eq_true (by first | (with_reducible assumption) | assumption); obtain ⟨ad217, e217, hx217_0, hx217_1⟩ := at_T93 HR0.out t215 p217 q217; cases e217; replace hx217_0 := (HB.out.cell (World.block_lt_of_cell? w _ hx217_0)).trans hx217_0; replace hx217_1 := (HB.out.cell (World.block_lt_of_cell? w _ hx217_1)).trans hx217_1; replace p217 := eq_true p217; replace q217 := eq_true q217))
              repeat (go_quiet (first | (go_at_call 117; (with_reducible refine (impl_Lock_int.calls kj4 _ _ l0 a1  t215 true _ ?side1 ?side2 A16.out).mono ?_); (case side1 => repeat (first | exact (Kd.C_below HR0.out HB.out) | (with_reducible refine Kd.C_alloc ?_ _) | (with_reducible refine Kd.C_drewN ?_ _) | (with_reducible refine Kd.C_drew ?_))); (case side2 => exact HC0.out); rintro e w20 ⟨rfl, hb⟩; have n0_ := Aside0.mk (Kd.R_below (by (with_reducible repeat (first | apply Kd.R_alloc | apply Kd.R_drewN | apply Kd.R_drew)); exact HO_8.out) hb); have n1_ := Aside0.mk (below_step (by repeat (first | (with_reducible first | exact HB.out | apply below_alloc | apply pw_below_drewN | apply below_drew1) | exact HB.out)) hb); clear HO_8; clear HB; have HO_8 := n0_; have HB := n1_; clear n0_ n1_; (try clear hb); (try clear hb2); (try clear hk); (try clear hi); have p217 : 0 ≤ (t215 : Int) := of_decide_eq_true (by first | (with_reducible assumption) | assumption); have q217 : t215 < (l0.length : Int) := of_decide_eq_true (by first | (with_reducible assumption) | assumption); obtain ⟨ad217, e217, hx217_0, hx217_1⟩ := at_T93 HR0.out t215 p217 q217; cases e217; replace hx217_0 := (HB.out.cell (World.block_lt_of_cell? w _ hx217_0)).trans hx217_0; replace hx217_1 := (HB.out.cell (World.block_lt_of_cell? w _ hx217_1)).trans hx217_1; replace p217 := eq_true p217; replace q217 := eq_true q217)); try go_wp2_with (first | (go_at_call 117; (with_reducible refine (impl_Lock_int.calls kj4 _ _ l0 a1  t215 true _ ?side1 ?side2 A16.out).mono ?_); (case side1 => repeat (first | exact (Kd.C_below HR0.out HB.out) | (with_reducible refine Kd.C_alloc ?_ _) | (with_reducible refine Kd.C_drewN ?_ _) | (with_reducible refine Kd.C_drew ?_))); (case side2 => exact HC0.out); rintro e w20 ⟨rfl, hb⟩; have n0_ := Aside0.mk (Kd.R_below (by (with_reducible repeat (first | apply Kd.R_alloc | apply Kd.R_drewN | apply Kd.R_drew)); exact HO_8.out) hb); have n1_ := Aside0.mk (below_step (by repeat (first | (with_reducible first | exact HB.out | apply below_alloc | apply pw_below_drewN | apply below_drew1) | exact HB.out)) hb); clear HO_8; clear HB; have HO_8 := n0_; have HB := n1_; clear n0_ n1_; (try clear hb); (try clear hb2); (try clear hk); (try clear hi); have p217 : 0 ≤ (t215 : Int) := of_decide_eq_true (by first | (with_reducible assumption) | assumption); have q217 : t215 < (l0.length : Int) := of_decide_eq_true (by first | (with_reducible assumption) | assumption); obtain ⟨ad217, e217, hx217_0, hx217_1⟩ := at_T93 HR0.out t215 p217 q217; cases e217; replace hx217_0 := (HB.out.cell (World.block_lt_of_cell? w _ hx217_0)).trans hx217_0; replace hx217_1 := (HB.out.cell (World.block_lt_of_cell? w _ hx217_1)).trans hx217_1; replace p217 := eq_true p217; replace q217 := eq_true q217)))
              go_ret2
              exact ⟨_, by first | rfl | (simp [errW_none, errW_some] <;> rfl) | (simp [*, errW_none, errW_some] <;> rfl), by (with_reducible repeat (first | apply Kd.R_alloc | apply Kd.R_drewN | apply Kd.R_drew)); exact HO_8.out, by repeat (first | (with_reducible first | exact HB.out | apply below_alloc | apply pw_below_drewN | apply below_drew1) | exact HB.out)⟩
            · rw [if_neg c19] at H
              exact absurd H (by simp)
          · rw [if_neg c18] at H
            exact absurd H (by simp)
        · replace c17 := Bool.eq_false_iff.mpr c17
          subst c17
          have H1 : ((impl_Lock_119.f t209 t215 (([(⟨a1, a2⟩ : S93)] : List (S93)))).bind fun t221 => (some (t221, true))) = some (r1, r2) := by rw [if_neg (show ¬ (false = true) by decide)] at H; exact H
          clear H
          have H := H1
          clear H1
          obtain ⟨y218, hy218⟩ : ∃ y_ : List (S93), y_ = (([(⟨a1, a2⟩ : S93)] : List (S93))) := ⟨_, rfl⟩
          replace H : ((impl_Lock_119.f t209 t215 y218).bind fun t221 => (some (t221, true))) = some (r1, r2) := by first | (rw [hy218]; with_reducible exact H) | (have H2_ := (Option.bind_some _ _).symm.trans H; rw [hy218]; with_reducible exact H2_) | (have H2_ := (Option.bind_some _ _).symm.trans H; with_reducible exact H2_) | with_reducible exact H | (rw [hy218]; exact H) | exact H
          have Ny218 := Aside0.mk hy218
          clear hy218
          replace H := Option.bind_eq_some_iff.mp H
          obtain ⟨t221, A210, H⟩ := H
          replace H : (some (t221, true)) = some (r1, r2) := H
          have A21 := Aside0.mk A210
          clear A210
          simp only [Option.some.injEq, Prod.mk.injEq] at H
          obtain ⟨rfl, rfl⟩ := H
          go_wp2_with (first | (go_at_call 117; (with_reducible refine (impl_Lock_int.calls kj4 _ _ l0 a1  t215 false _ ?side1 ?side2 A16.out).mono ?_); (case side1 => repeat (first | exact (Kd.C_below HR0.out HB.out) | (with_reducible refine Kd.C_alloc ?_ _) | (with_reducible refine Kd.C_drewN ?_ _) | (with_reducible refine Kd.C_drew ?_))); (case side2 => exact HC0.out); rintro e w22 ⟨rfl, hb⟩; have n0_ := Aside0.mk (Kd.R_below (by (with_reducible repeat (first | apply Kd.R_alloc | apply Kd.R_drewN | apply Kd.R_drew)); exact HO_8.out) hb); have n1_ := Aside0.mk (below_step (by repeat (first | (with_reducible first | exact HB.out | apply below_alloc | apply pw_below_drewN | apply below_drew1) | exact HB.out)) hb); clear HO_8; clear HB; have HO_8 := n0_; have HB := n1_; clear n0_ n1_; (try clear hb); (try clear hb2); (try clear hk); (try clear hi)) | ((with_reducible refine gate_dst (N := 47) rfl ?_); refine Kd.R_lit k93 _ 93 ?hg (N := 47) ?hd (xs := ([(⟨a1, a2⟩ : S93)] : List (S93))) (inner := [.int .i64 a1, .int .i64 a2]) (ok := fun _ => True) (okp := fun _ => True) ?hr ?hp (fun _ hk => hk) trivial (Below.refl _ _) (Nat.le_refl _) (by simp) ?_; (case hd => rfl); (case hg => rfl); (case hr => first | (go_simp; done) | (go_simp; rfl)); (case hp => exact (Reps.c2 (show Kd.M k93 _ _ _ (⟨a1, a2⟩ : S93) [.int .i64 a1, .int .i64 a2] from (k93_mkM _ _ _ (⟨a1, a2⟩ : S93) )) (Reps.none _ _))); intro v219 w23 ho24 hb hg_ hnew_; clear hg_ hnew_; (first | rw [← Ny218.out] at ho24 | (simp only [Int.reduceToNat] at ho24; rw [← Ny218.out] at ho24)); have n0_ := Aside0.mk (Kd.R_elder' (by (with_reducible repeat (first | apply Kd.R_alloc | apply Kd.R_drewN | apply Kd.R_drew)); exact HO_8.out) (Kd.R_base ho24) hb); have n1_ := Aside0.mk (Kd.R_lower (Kd.R_new' ho24 (Kd.R_lt (by (with_reducible repeat (first | apply Kd.R_alloc | apply Kd.R_drewN | apply Kd.R_drew)); exact HO_8.out))) (below_size (by repeat (first | (with_reducible first | exact HB.out | apply below_alloc | apply pw_below_drewN | apply below_drew1) | exact HB.out)))); have n2_ := Aside0.mk (below_step (by repeat (first | (with_reducible first | exact HB.out | apply below_alloc | apply pw_below_drewN | apply below_drew1) | exact HB.out)) hb); clear HO_8; clear HB; have HO_8 := n0_; have HO220 := n1_; have HB := n2_; clear n0_ n1_ n2_; clear hb ho24; obtain ⟨Ao25, co25, eo25⟩ := Kd.R_slice HO_8.out; subst eo25; obtain ⟨Ao26, co26, eo26⟩ := Kd.R_slice HO220.out; subst eo26) | (go_at_call 119; (with_reducible refine (impl_Lock_119.calls (fun k_ => some k_ = (.slice Ao25 t209.length co25 : Value).ownBlock) (.slice Ao25 t209.length co25) t209 t215 (fun k_ => some k_ = (.slice Ao26 y218.length co26 : Value).ownBlock) (.slice Ao26 y218.length co26) y218 t221 w _ ?side1 ?side2 ?side3 ?side4 ?side5 A21.out).mono ?_); (case side1 => repeat (first | (with_reducible first | exact HB.out | apply below_alloc | apply pw_below_drewN | apply below_drew1) | exact HB.out)); (case side2 => exact Kd.R_tight rfl HO_8.out); (case side3 => exact fun k_ e_ => (HO_8.out.1 k_ e_.symm).2); (case side4 => exact Kd.R_tight rfl HO220.out); (case side5 => exact fun k_ e_ => (HO220.out.1 k_ e_.symm).2); rintro e w27 ⟨v222, rfl, ho0, hb, hkp⟩; have n0_ := Aside0.mk (Kd.R_mono (ok' := fun k_ => True) ho0 (fun k_ hk_ => trivial)); have n1_ := Aside0.mk (hb); clear HB; clear HO220; clear HO_8; have HO223 := n0_; have HB := n1_; clear n0_ n1_; (try clear hb); (try clear hkp); (try clear ho0)))
          repeat (go_quiet (first | (go_at_call 117; (with_reducible refine (impl_Lock_int.calls kj4 _ _ l0 a1  t215 false _ ?side1 ?side2 A16.out).mono ?_); (case side1 => repeat (first | exact (Kd.C_below HR0.out HB.out) | (with_reducible refine Kd.C_alloc ?_ _) | (with_reducible refine Kd.C_drewN ?_ _) | (with_reducible refine Kd.C_drew ?_))); (case side2 => exact HC0.out); rintro e w22 ⟨rfl, hb⟩; have n0_ := Aside0.mk (Kd.R_below (by (with_reducible repeat (first | apply Kd.R_alloc | apply Kd.R_drewN | apply Kd.R_drew)); exact HO_8.out) hb); have n1_ := Aside0.mk (below_step (by repeat (first | (with_reducible first | exact HB.out | apply below_alloc | apply pw_below_drewN | apply below_drew1) | exact HB.out)) hb); clear HO_8; clear HB; have HO_8 := n0_; have HB := n1_; clear n0_ n1_; (try clear hb); (try clear hb2); (try clear hk); (try clear hi)) | ((with_reducible refine gate_dst (N := 47) rfl ?_); refine Kd.R_lit k93 _ 93 ?hg (N := 47) ?hd (xs := ([(⟨a1, a2⟩ : S93)] : List (S93))) (inner := [.int .i64 a1, .int .i64 a2]) (ok := fun _ => True) (okp := fun _ => True) ?hr ?hp (fun _ hk => hk) trivial (Below.refl _ _) (Nat.le_refl _) (by simp) ?_; (case hd => rfl); (case hg => rfl); (case hr => first | (go_simp; done) | (go_simp; rfl)); (case hp => exact (Reps.c2 (show Kd.M k93 _ _ _ (⟨a1, a2⟩ : S93) [.int .i64 a1, .int .i64 a2] from (k93_mkM _ _ _ (⟨a1, a2⟩ : S93) )) (Reps.none _ _))); intro v219 w23 ho24 hb hg_ hnew_; clear hg_ hnew_; (first | rw [← Ny218.out] at ho24 | (simp only [Int.reduceToNat] at ho24; rw [← Ny218.out] at ho24)); have n0_ := Aside0.mk (Kd.R_elder' (by (with_reducible repeat (first | apply Kd.R_alloc | apply Kd.R_drewN | apply Kd.R_drew)); exact HO_8.out) (Kd.R_base ho24) hb); have n1_ := Aside0.mk (Kd.R_lower (Kd.R_new' ho24 (Kd.R_lt (by (with_reducible repeat (first | apply Kd.R_alloc | apply Kd.R_drewN | apply Kd.R_drew)); exact HO_8.out))) (below_size (by repeat (first | (with_reducible first | exact HB.out | apply below_alloc | apply pw_below_drewN | apply below_drew1) | exact HB.out)))); have n2_ := Aside0.mk (below_step (by repeat (first | (with_reducible first | exact HB.out | apply below_alloc | apply pw_below_drewN | apply below_drew1) | exact HB.out)) hb); clear HO_8; clear HB; have HO_8 := n0_; have HO220 := n1_; have HB := n2_; clear n0_ n1_ n2_; clear hb ho24; obtain ⟨Ao25, co25, eo25⟩ := Kd.R_slice HO_8.out; subst eo25; obtain ⟨Ao26, co26, eo26⟩ := Kd.R_slice HO220.out; subst eo26) | (go_at_call 119; (with_reducible refine (impl_Lock_119.calls (fun k_ => some k_ = (.slice Ao25 t209.length co25 : Value).ownBlock) (.slice Ao25 t209.length co25) t209 t215 (fun k_ => some k_ = (.slice Ao26 y218.length co26 : Value).ownBlock) (.slice Ao26 y218.length co26) y218 t221 w _ ?side1 ?side2 ?side3 ?side4 ?side5 A21.out).mono ?_); (case side1 => repeat (first | (with_reducible first | exact HB.out | apply below_alloc | apply pw_below_drewN | apply below_drew1) | exact HB.out)); (case side2 => exact Kd.R_tight rfl HO_8.out); (case side3 => exact fun k_ e_ => (HO_8.out.1 k_ e_.symm).2); (case side4 => exact Kd.R_tight rfl HO220.out); (case side5 => exact fun k_ e_ => (HO220.out.1 k_ e_.symm).2); rintro e w27 ⟨v222, rfl, ho0, hb, hkp⟩; have n0_ := Aside0.mk (Kd.R_mono (ok' := fun k_ => True) ho0 (fun k_ hk_ => trivial)); have n1_ := Aside0.mk (hb); clear HB; clear HO220; clear HO_8; have HO223 := n0_; have HB := n1_; clear n0_ n1_; (try clear hb); (try clear hkp); (try clear ho0))); try go_wp2_with (first | (go_at_call 117; (with_reducible refine (impl_Lock_int.calls kj4 _ _ l0 a1  t215 false _ ?side1 ?side2 A16.out).mono ?_); (case side1 => repeat (first | exact (Kd.C_below HR0.out HB.out) | (with_reducible refine Kd.C_alloc ?_ _) | (with_reducible refine Kd.C_drewN ?_ _) | (with_reducible refine Kd.C_drew ?_))); (case side2 => exact HC0.out); rintro e w22 ⟨rfl, hb⟩; have n0_ := Aside0.mk (Kd.R_below (by (with_reducible repeat (first | apply Kd.R_alloc | apply Kd.R_drewN | apply Kd.R_drew)); exact HO_8.out) hb); have n1_ := Aside0.mk (below_step (by repeat (first | (with_reducible first | exact HB.out | apply below_alloc | apply pw_below_drewN | apply below_drew1) | exact HB.out)) hb); clear HO_8; clear HB; have HO_8 := n0_; have HB := n1_; clear n0_ n1_; (try clear hb); (try clear hb2); (try clear hk); (try clear hi)) | ((with_reducible refine gate_dst (N := 47) rfl ?_); refine Kd.R_lit k93 _ 93 ?hg (N := 47) ?hd (xs := ([(⟨a1, a2⟩ : S93)] : List (S93))) (inner := [.int .i64 a1, .int .i64 a2]) (ok := fun _ => True) (okp := fun _ => True) ?hr ?hp (fun _ hk => hk) trivial (Below.refl _ _) (Nat.le_refl _) (by simp) ?_; (case hd => rfl); (case hg => rfl); (case hr => first | (go_simp; done) | (go_simp; rfl)); (case hp => exact (Reps.c2 (show Kd.M k93 _ _ _ (⟨a1, a2⟩ : S93) [.int .i64 a1, .int .i64 a2] from (k93_mkM _ _ _ (⟨a1, a2⟩ : S93) )) (Reps.none _ _))); intro v219 w23 ho24 hb hg_ hnew_; clear hg_ hnew_; (first | rw [← Ny218.out] at ho24 | (simp only [Int.reduceToNat] at ho24; rw [← Ny218.out] at ho24)); have n0_ := Aside0.mk (Kd.R_elder' (by (with_reducible repeat (first | apply Kd.R_alloc | apply Kd.R_drewN | apply Kd.R_drew)); exact HO_8.out) (Kd.R_base ho24) hb); have n1_ := Aside0.mk (Kd.R_lower (Kd.R_new' ho24 (Kd.R_lt (by (with_reducible repeat (first | apply Kd.R_alloc | apply Kd.R_drewN | apply Kd.R_drew)); exact HO_8.out))) (below_size (by repeat (first | (with_reducible first | exact HB.out | apply below_alloc | apply pw_below_drewN | apply below_drew1) | exact HB.out)))); have n2_ := Aside0.mk (below_step (by repeat (first | (with_reducible first | exact HB.out | apply below_alloc | apply pw_below_drewN | apply below_drew1) | exact HB.out)) hb); clear HO_8; clear HB; have HO_8 := n0_; have HO220 := n1_; have HB := n2_; clear n0_ n1_ n2_; clear hb ho24; obtain ⟨Ao25, co25, eo25⟩ := Kd.R_slice HO_8.out; subst eo25; obtain ⟨Ao26, co26, eo26⟩ := Kd.R_slice HO220.out; subst eo26) | (go_at_call 119; (with_reducible refine (impl_Lock_119.calls (fun k_ => some k_ = (.slice Ao25 t209.length co25 : Value).ownBlock) (.slice Ao25 t209.length co25) t209 t215 (fun k_ => some k_ = (.slice Ao26 y218.length co26 : Value).ownBlock) (.slice Ao26 y218.length co26) y218 t221 w _ ?side1 ?side2 ?side3 ?side4 ?side5 A21.out).mono ?_); (case side1 => repeat (first | (with_reducible first | exact HB.out | apply below_alloc | apply pw_below_drewN | apply below_drew1) | exact HB.out)); (case side2 => exact Kd.R_tight rfl HO_8.out); (case side3 => exact fun k_ e_ => (HO_8.out.1 k_ e_.symm).2); (case side4 => exact Kd.R_tight rfl HO220.out); (case side5 => exact fun k_ e_ => (HO220.out.1 k_ e_.symm).2); rintro e w27 ⟨v222, rfl, ho0, hb, hkp⟩; have n0_ := Aside0.mk (Kd.R_mono (ok' := fun k_ => True) ho0 (fun k_ hk_ => trivial)); have n1_ := Aside0.mk (hb); clear HB; clear HO220; clear HO_8; have HO223 := n0_; have HB := n1_; clear n0_ n1_; (try clear hb); (try clear hkp); (try clear ho0))))
          go_ret2
          exact ⟨_, by first | rfl | (simp [errW_none, errW_some] <;> rfl) | (simp [*, errW_none, errW_some] <;> rfl), by (with_reducible repeat (first | apply Kd.R_alloc | apply Kd.R_drewN | apply Kd.R_drew)); exact HO223.out, by repeat (first | (with_reducible first | exact HB.out | apply below_alloc | apply pw_below_drewN | apply below_drew1) | exact HB.out)⟩

end Go.Proofs.Ytaopeedfmhmfgaa.PFnExactAcquireLock
