-- Printed by a program of mine (wip/myprint.py), which runs the printer of the kit with contracts of mine beside it.
import Derived.Test.YtpiaeinfneoioaaPFnIndexesx0
import Derived.Test.YtpiaeinfneoioaaPFnIndexesx2
import Derived.Test.YtpiaeinfneoioaaPFnIndexesx3
import Derived.Test.YtpiaeinfneoioaaPFnIndexesx5
namespace Go.Proofs.Ytpiaeinfneoioaa.PFnIndexes
open Go.RowKit Go.Proofs.YtpiaeinfneoioaaW.PrintWords Go.Proofs.YtpiaeinfneoioaaW.PrintLast Go.Proofs.YtpiaeinfneoioaaW.PrintMore
attribute [local go_sem] max2_int min2_int max_two min_two max_three min_three max_four min_four   -- for this text's walks alone
set_option linter.unusedVariables false
set_option linter.unusedSimpArgs false

/-! ### spec_DrawSplitNode: function 80 -/
def spec_DrawSplitNode.f (k : Nat) (l0 : List Int) : Option ((List (S77)) × Int) := (spec_l1New.f k l0).bind fun bt262 => ((spec_l16Any.f k bt262.1 bt262.2.1 bt262.2.2).bind fun bt266 => ((spec_l1Below.f bt262.1 bt266.2.1 bt266.2.2 8).bind fun bt271 => (some (bt266.1, wrap64 (bt271.1 - 1)))))
theorem spec_DrawSplitNode.mono : ∀ a0 k, LeO (spec_DrawSplitNode.f k a0) (spec_DrawSplitNode.f (k + 1) a0) := by
 intro a0 k
 unfold spec_DrawSplitNode.f
 repeat' first
   | (with_reducible exact spec_l16Any.mono _ _ _ _)
   | (with_reducible exact spec_l1New.mono _ _)
   | (with_reducible exact LeO.refl _)
   | (with_reducible exact LeO.none _)
   | (with_reducible refine LeO.ite ?_ ?_)
   | (with_reducible refine LeO.bind ?_ (fun _ => ?_))
   | exact spec_l16Any.mono _ _ _ _
   | exact spec_l1New.mono _ _
   | exact LeO.none _
   | refine LeO.ite ?_ ?_
   | refine LeO.bind ?_ (fun _ => ?_)
set_option maxHeartbeats 8000000 in
set_option maxRecDepth 100000 in
theorem spec_DrawSplitNode.calls (k : Nat) (A0 : Option Addr) (c0 : Nat) (l0 : List Int) (r1 : List (S77)) (r2 : Int) (w : World) (hr0 : Kd.C (Kd.int .u8) w A0 l0.length l0) (hc0 : l0.length ≤ c0) (h : spec_DrawSplitNode.f k l0 = some (r1, r2)) :
  Calls Try.prog 80 #[.slice A0 l0.length c0] w fun e w' => ∃ v0_ : Value, e = .returned (.tuple #[v0_, .int .i64 r2]) ∧ Kd.Q k77 77 w' w.heap.size (fun _ => True) v0_ r1 ∧ Below w.heap.size w w' := by
 have HR0 := AM_ hr0
 have HC0 := AM_ hc0
 clear hr0 hc0
 have HB := AM_ (Below.refl w.heap.size w)
 have H : ((spec_l1New.f k l0).bind fun bt262 => ((spec_l16Any.f k bt262.1 bt262.2.1 bt262.2.2).bind fun bt266 => ((spec_l1Below.f bt262.1 bt266.2.1 bt266.2.2 8).bind fun bt271 => (some (bt266.1, wrap64 (bt271.1 - 1)))))) = some (r1, r2) := h
 clear h
 replace H := Option.bind_eq_some_iff.mp H
 obtain ⟨⟨t262, t263, t264⟩, A20, H⟩ := H
 replace H : ((spec_l16Any.f k t262 t263 t264).bind fun bt266 => ((spec_l1Below.f t262 bt266.2.1 bt266.2.2 8).bind fun bt271 => (some (bt266.1, wrap64 (bt271.1 - 1))))) = some (r1, r2) := H
 have A2 := AM_ A20
 clear A20
 replace H := Option.bind_eq_some_iff.mp H
 obtain ⟨⟨t266, t269, t270⟩, A30, H⟩ := H
 replace H : ((spec_l1Below.f t262 t269 t270 8).bind fun bt271 => (some (t266, wrap64 (bt271.1 - 1)))) = some (r1, r2) := H
 have A3 := AM_ A30
 clear A30
 replace H := Option.bind_eq_some_iff.mp H
 obtain ⟨⟨t271, t272, t273⟩, A40, H⟩ := H
 replace H : (some (t266, wrap64 (t271 - 1))) = some (r1, r2) := H
 have A4 := AM_ A40
 clear A40
 simp only [Option.some.injEq, Prod.mk.injEq] at H
 obtain ⟨rfl, rfl⟩ := H
 go_enter Try.func80, Try.ntmps80
 go_wp2_with (first | ((with_reducible refine gate_callee (f := 104) rfl ?_); refine goesL_ (some 6) rfl rfl Try.func104 (by kernel_rfl) rfl #[.slice A0 l0.length c0] rfl (by (try simp only [List.map_toArray, List.map_cons, List.map_nil]); first | done | rfl | (simp only [List.length_drop, List.length_take]; rfl)) ?_; (with_reducible refine (spec_l1New.calls k _ _ l0 t262 t263 t264 w _ ?side1 ?side2 ?side3 A2.out).mono ?_); (case side1 => repeat (first | (with_reducible first | exact HB.out | apply below_alloc | apply pw_below_drewN | apply below_drew1) | exact HB.out)); (case side2 => exact HR0.out); (case side3 => exact HC0.out); rintro e w5 ⟨g265, rfl, hi, hb, hb2⟩; refine ⟨_, rfl, ?_⟩; have n0_ := AM_ (hb); have n1_ := AM_ (hi); clear HB; have HB := n0_; have HI265 := n1_; clear n0_ n1_; (try clear hb); (try clear hb2); (try clear hk); (try clear hi)) | ((with_reducible refine gate_callee (f := 155) rfl ?_); refine goesL_ (some 8) rfl rfl Try.func155 (by kernel_rfl) rfl #[.pointer (some ⟨g265, 0, none⟩)] rfl (by (try simp only [List.map_toArray, List.map_cons, List.map_nil]); first | done | rfl | (simp only [List.length_drop, List.length_take]; rfl)) ?_; (with_reducible refine (spec_l16Any.calls k g265 t262 t263 t264 t266 t269 t270 w _ ?side1 ?side2 A3.out).mono ?_); (case side1 => repeat (first | (with_reducible first | exact HI265.out | apply IsS202.alloc | apply IsS202.drewN | apply IsS202.drew | apply IsS202.set_1 | apply IsS202.set_2) | exact HI265.out)); (case side2 => repeat (first | (with_reducible first | exact HB.out | apply below_alloc | apply pw_below_drewN | apply below_drew1 | refine below_set ?_ (IsS202.ge HI265.out)) | exact HB.out)); rintro e w6 ⟨v267, rfl, ho0, hi, hb, hk⟩; refine ⟨_, rfl, ?_⟩; have n0_ := AM_ (Kd.Q_lower ho0 (below_size (by repeat (first | (with_reducible first | exact HB.out | apply below_alloc | apply pw_below_drewN | apply below_drew1 | refine below_set ?_ (IsS202.ge HI265.out)) | exact HB.out)))); have n1_ := AM_ (hb); have n2_ := AM_ (hi); clear HB; clear HI265; have HO268 := n0_; have HB := n1_; have HI265 := n2_; clear n0_ n1_ n2_; (try clear hb); (try clear hb2); (try clear hk); (try clear hi); (try clear ho0)) | ((with_reducible refine gate_callee (f := 106) rfl ?_); refine goesL_ (some 10) rfl rfl Try.func106 (by kernel_rfl) rfl #[.pointer (some ⟨g265, 0, none⟩), .int .i64 8] rfl (by (try simp only [List.map_toArray, List.map_cons, List.map_nil]); first | done | rfl | (simp only [List.length_drop, List.length_take]; rfl)) ?_; (with_reducible refine (spec_l1Below.calls g265 t262 t269 t270 8 t271 t272 t273 w _ ?side1 ?side2 A4.out).mono ?_); (case side1 => repeat (first | (with_reducible first | exact HI265.out | apply IsS202.alloc | apply IsS202.drewN | apply IsS202.drew | apply IsS202.set_1 | apply IsS202.set_2) | exact HI265.out)); (case side2 => repeat (first | (with_reducible first | exact HB.out | apply below_alloc | apply pw_below_drewN | apply below_drew1 | refine below_set ?_ (IsS202.ge HI265.out)) | exact HB.out)); rintro e w7 ⟨rfl, hi, hb, hk⟩; refine ⟨_, rfl, ?_⟩; have n0_ := AM_ (Kd.Q_mono (Kd.Q_keep (IsS202.apartQ (show IsS202 w _ g265 t262 t269 t270 from by repeat (first | (with_reducible first | exact HI265.out | apply IsS202.alloc | apply IsS202.drewN | apply IsS202.drew | apply IsS202.set_1 | apply IsS202.set_2) | exact HI265.out)) (by (with_reducible repeat (first | apply Kd.Q_alloc | apply Kd.Q_drewN | apply Kd.Q_drew)); exact HO268.out) (by decide)) hk (fun _ h => h.2)) (fun _ h => h.1)); have n1_ := AM_ (hb); have n2_ := AM_ (hi); clear HO268; clear HB; clear HI265; have HO268 := n0_; have HB := n1_; have HI265 := n2_; clear n0_ n1_ n2_; (try clear hb); (try clear hb2); (try clear hk); (try clear hi)))
 go_ret2
 exact ⟨_, by first | rfl | (simp [errW_none, errW_some] <;> rfl) | (simp [*, errW_none, errW_some] <;> rfl), by (with_reducible repeat (first | apply Kd.Q_alloc | apply Kd.Q_drewN | apply Kd.Q_drew)); exact HO268.out, by repeat (first | (with_reducible first | exact HB.out | apply below_alloc | apply pw_below_drewN | apply below_drew1 | refine below_set ?_ (IsS202.ge HI265.out)) | exact HB.out)⟩

/-! ### impl_IndexNode_158: function 158 -/
section
open Go.Lib
set_option maxHeartbeats 4000000 in
set_option maxRecDepth 100000 in
theorem impl_IndexNode_158_shift (b n c i vb vc : Nat) (cur cv : Array Value) (w : World) (hi : i < n) (hroom : n + 1 ≤ c) (hc63 : c ≤ 9223372036854775807) (hvb : vb ≠ b)
  (hb : w.heap[b]? = some (.cells cur 77 (0, 0))) (hv : w.heap[vb]? = some (.cells cv 77 (0, 0))) (hcs : cur.size = c * 3) (hcv : 3 ≤ cv.size)
  (h1c : ∀ u ∈ cur.toList.take (n * 3), u.oneCell' = true) (h1v : ∀ u ∈ cv.toList.take 3, u.oneCell' = true) :
  Calls Try.prog 158 #[.slice (some ⟨b, 0, none⟩) n c, .int .i64 i, .slice (some ⟨vb, 0, none⟩) 1 vc] w fun e w' =>
   e = .returned (.slice (some ⟨b, 0, none⟩) (n + 1) c) ∧ w' = w.drew.setRow b ((cur.toList.take (n * 3)).take (i * 3) ++ cv.toList.take 3 ++ (cur.toList.take (n * 3)).drop (i * 3) ++ cur.toList.drop (n * 3 + 3)).toArray := by
 have hu93 := Try.underlying77
 have hz1 : ¬ ((1 : Int) = 0) := by omega
 have hz2 : ¬ ((i : Int) = (n : Int)) := by omega
 have hin : i ≤ n := by omega
 have hw1 : IntKind.i64.wrap ((i : Int) + 1) = (i : Int) + 1 := by rw [IntKind.wrap_i64]; omega
 have hw2 : IntKind.i64.wrap ((n : Int) + 1) = (n : Int) + 1 := by rw [IntKind.wrap_i64]; omega
 have hw1' : wrap64 ((i : Int) + 1) = (i : Int) + 1 := by unfold wrap64; omega
 have hw2' : wrap64 ((n : Int) + 1) = (n : Int) + 1 := by unfold wrap64; omega
 have hb1 : (0 : Int) ≤ (i : Int) + 1 := by omega
 have htn : ((i : Int) + 1).toNat = i + 1 := by omega
 have htn2 : ((n : Int) + 1).toNat = n + 1 := by omega
 have hb2 : ¬ (c = i + 1) := by omega
 have hb3 : (i : Int) ≤ (n : Int) + 1 := by omega
 have hb3' : (i : Int) + 1 ≤ (n : Int) + 1 := by omega
 have hb4 : ¬ (c = i) := by omega
 have hb5 : (n : Int) + 1 ≤ (c : Int) := by omega
 have hb6 : ¬ ((n : Int) + 1 > (c : Int)) := by omega
 have hb7 : (0 : Int) ≤ (n : Int) + 1 := by omega
 have hz93 : ∀ w, (Go.sizeOf 77).run Try.prog w = .ok 3 w := fun w => by
  obtain ⟨i0, hi0, h0, h1, h2⟩ := info_parts info77
  simp [sizeOf, typeInfo, hi0, h1]
 have hov : ∀ lb cb, (callFunc 207 #[.slice (some ⟨vb, 0, none⟩) 1 vc, .slice (some ⟨b, (i + 1) * 3, none⟩) lb cb]).run Try.prog w = .ok (.value (.bool false)) w := fun lb cb => by
  rw [run_callFunc_extern Try.func207 (by kernel_rfl) (by kernel_rfl) (by kernel_rfl) (e := Extern.SlicesOverlaps.overlaps #[74, 74] #[4]) (by kernel_rfl),
   run_overlaps_apart w 74 4 77 Try.underlying74 3 hz93 ⟨vb, 0, none⟩ ⟨b, (i + 1) * 3, none⟩ 1 vc lb cb hvb 77 77 cv.size cur.size (by unfold World.shape?; rw [hv]) (by unfold World.shape?; rw [hb]) (by rw [hcs]; omega) (by simp [World.frozen?, hv]) (by simp [World.frozen?, hv])]
  rfl
 have hdl : ((cur.toList.take (n * 3)).drop (i * 3)).length = (n - i) * 3 := by rw [List.length_drop, List.length_take, Array.length_toList, hcs]; omega
 have hvl : (cv.toList.take 3).length = 3 := by rw [List.length_take, Array.length_toList]; omega
 have hsz : (Try.prog.info? 77).map (·.size) = some 3 := by
  obtain ⟨i0, hi0, h0, h1, h2⟩ := info_parts info77
  rw [hi0]; simp [h1]
 have hcb : ∀ (W : World), W.heap = w.heap → ∀ j v, ((cur.toList.take (n * 3)).drop (i * 3))[j]? = some v → W.cell? ((⟨b, i * 3, none⟩ : Addr).add j) = some v := fun W hW j v hj => by
  rw [Addr.add_lit]
  rw [List.getElem?_drop, List.getElem?_take] at hj
  split at hj
  ·simp only [World.cell?, hW, hb]
   rw [← Array.getElem?_toList]; simpa using hj
  ·cases hj
 obtain ⟨cur1, hcur1⟩ : ∃ c1, c1 = (cur.toList.take ((i + 1) * 3) ++ (cur.toList.take (n * 3)).drop (i * 3) ++ cur.toList.drop ((i + 1) * 3 + ((cur.toList.take (n * 3)).drop (i * 3)).length)) := ⟨_, rfl⟩
 have hcp1 : ∀ ty dc sc, (Builtin.copy_ #[74, 74] ty #[.slice (some ⟨b, (i + 1) * 3, none⟩) (n - i) dc, .slice (some ⟨b, i * 3, none⟩) (n + 1 - i) sc]).run Try.prog w.drew = .ok (goInt (Nat.min (n + 1 - i) (n - i))) (w.drew.setRow b cur1.toArray) := fun ty dc sc => by
  rw [hcur1]
  exact run_copy_rowN w.drew 74 74 ty 77 3 b ((i + 1) * 3) (n - i) dc ⟨b, i * 3, none⟩ (n + 1 - i) sc cur 77 ((cur.toList.take (n * 3)).drop (i * 3)) Try.underlying74 hsz hb (by rw [hdl]; simp only [Nat.min_def]; split <;> omega)
   (hcb _ rfl) (by rw [hdl, hcs]; omega) (fun v hv => h1c v (List.mem_of_mem_drop hv))
 have hl1 : cur1.length = cur.size := by
  rw [hcur1, List.length_append, List.length_append, hdl, List.length_drop, List.length_take, Array.length_toList, hcs]; omega
 have hcp2 : ∀ (W : World), W.heap = (w.drew.setRow b cur1.toArray).heap → ∀ ty dc, (Builtin.copy_ #[74, 74] ty #[.slice (some ⟨b, i * 3, none⟩) (n + 1 - i) dc, .slice (some ⟨vb, 0, none⟩) 1 vc]).run Try.prog W = .ok (goInt (Nat.min 1 (n + 1 - i))) (W.setRow b (cur1.take (i * 3) ++ cv.toList.take 3 ++ cur1.drop (i * 3 + (cv.toList.take 3).length)).toArray) := fun W hW ty dc => by
  have hWb : W.heap[b]? = some (.cells cur1.toArray 77 (0, 0)) := by rw [hW]; exact setRow_heap w.drew b cur cur1.toArray 77 (0, 0) hb
  have hWv : W.heap[vb]? = some (.cells cv 77 (0, 0)) := by
   rw [hW]
   simp only [World.setRow]
   rw [Array.getElem?_modify, if_neg (fun h => hvb h.symm)]
   exact hv
  have h := run_copy_rowN W 74 74 ty 77 3 b (i * 3) (n + 1 - i) dc ⟨vb, 0, none⟩ 1 vc cur1.toArray 77 (cv.toList.take 3) Try.underlying74 hsz hWb (by rw [hvl]; simp only [Nat.min_def]; split <;> omega)
   (fun j v hj => by
    rw [Addr.add_lit]
    rw [List.getElem?_take] at hj
    split at hj
    ·simp only [World.cell?, hWv]
     rw [← Array.getElem?_toList]; simpa using hj
    ·cases hj) (by rw [hvl]; simp only [List.size_toArray, hl1, hcs]; omega) h1v
  simpa using h
 have hfin : (w.drew.setRow b cur1.toArray).setRow b (cur1.take (i * 3) ++ cv.toList.take 3 ++ cur1.drop (i * 3 + (cv.toList.take 3).length)).toArray = w.drew.setRow b ((cur.toList.take (n * 3)).take (i * 3) ++ cv.toList.take 3 ++ (cur.toList.take (n * 3)).drop (i * 3) ++ cur.toList.drop (n * 3 + 3)).toArray := by
  rw [setRow_setRow, hcur1]
  congr 1
  congr 1
  have h := shift_cells cur.toList (cv.toList.take 3) (i * 3) 3 (n * 3) (by omega) (by rw [Array.length_toList, hcs]; omega) hvl
  simpa [Nat.add_mul] using h
 rw [← hfin]
 clear hcur1 hfin
 have mixed : Try.prog.follows Departure.mixedOrders = true := by kernel_rfl
 go_enter Try.func158, Try.ntmps158
 go_wp2_with (simp only [hov])
 go_region_law_o (refine step_copy_runI rfl _ _ 74 74 rfl _ _ (by simp [Act.eval, Act.put]) (by simp [Act.eval, Act.put]) (hcp1 _ _ _) ?_)
 go_wp2_with (at_builtin; refine wpList_copy_runI _ rfl _ _ 74 74 rfl _ _ rfl rfl (hcp2 _ rfl _ _) ?_)
 go_ret
 exact ⟨rfl, by rw [hvl, List.append_assoc]⟩
set_option maxHeartbeats 4000000 in
set_option maxRecDepth 100000 in
theorem impl_IndexNode_158_grow (b n c i vb vc : Nat) (cur cv : Array Value) (w : World) (hi : i < n) (hnc : n ≤ c) (hroom : c < n + 1) (hbig : (n + 1) * 24 ≤ 140737488355328)
  (hb : w.heap[b]? = some (.cells cur 77 (0, 0))) (hv : w.heap[vb]? = some (.cells cv 77 (0, 0))) (hcs : cur.size = c * 3) (hcv : 3 ≤ cv.size)
  (h1c : ∀ u ∈ cur.toList.take (n * 3), u.oneCell' = true) (h1v : ∀ u ∈ cv.toList.take 3, u.oneCell' = true) (z : Value) (hz : z = .agg #[.int .i64 0, .int .i64 0, .int .i64 0])
  (ROW : Array Value) (hROW : ROW = (cur.toList.take (i * 3)).toArray ++ Builtin.zeroCells z.cells (n + 1 - i) ++ Builtin.zeroCells z.cells (grownCap w (n + 1) c 77 - (n + 1))) :
  Calls Try.prog 158 #[.slice (some ⟨b, 0, none⟩) n c, .int .i64 i, .slice (some ⟨vb, 0, none⟩) 1 vc] w fun e w' =>
   e = .returned (.slice (some ⟨w.heap.size, 0, none⟩) (n + 1) (grownCap w (n + 1) c 77)) ∧
   w' = (((w.alloc (.cells ROW 77)).drew.setRow w.heap.size (ROW.toList.take (i * 3) ++ cv.toList.take 3 ++ ROW.toList.drop (i * 3 + 3)).toArray).drew).setRow w.heap.size
    ((ROW.toList.take (i * 3) ++ cv.toList.take 3 ++ ROW.toList.drop (i * 3 + 3)).take ((i + 1) * 3) ++ (cur.toList.take (n * 3)).drop (i * 3) ++ (ROW.toList.take (i * 3) ++ cv.toList.take 3 ++ ROW.toList.drop (i * 3 + 3)).drop ((i + 1) * 3 + (n - i) * 3)).toArray := by
 have hu93 := Try.underlying77
 obtain ⟨i0, hi0, hz0, hzs, hzb⟩ := info_parts info77
 rw [← hz] at hz0
 have hz1 : ¬ ((1 : Int) = 0) := by omega
 have hz2 : ¬ ((i : Int) = (n : Int)) := by omega
 have hz3 : (c : Int) < (n : Int) + 1 := by omega
 have hz3' : (n : Int) + 1 > (c : Int) := by omega
 have hin : i ≤ n := by omega
 have hw1 : IntKind.i64.wrap ((i : Int) + 1) = (i : Int) + 1 := by rw [IntKind.wrap_i64]; omega
 have hw2 : IntKind.i64.wrap ((n : Int) + 1) = (n : Int) + 1 := by rw [IntKind.wrap_i64]; omega
 have hw3 : IntKind.i64.wrap ((n : Int) + 1 - (i : Int)) = (n : Int) + 1 - (i : Int) := by rw [IntKind.wrap_i64]; omega
 have hb1 : (0 : Int) ≤ (i : Int) + 1 := by omega
 have htn : ((i : Int) + 1).toNat = i + 1 := by omega
 have hb3 : (i : Int) ≤ (n : Int) := by omega
 have hb3' : (i : Int) + 1 ≤ (n : Int) + 1 := by omega
 have hci : ¬ (c = i) := by omega
 have hbw : b < w.heap.size := (Array.getElem?_eq_some_iff.1 hb).1
 have hvw : vb < w.heap.size := (Array.getElem?_eq_some_iff.1 hv).1
 have hsz : (Try.prog.info? 77).map (·.size) = some 3 := by rw [hi0]; simp [hzs]
 have hkk : (n : Int) + 1 - (i : Int) = ((n + 1 - i : Nat) : Int) := by omega
 have hik : i + (n + 1 - i) = n + 1 := by omega
 have hdl : ((cur.toList.take (n * 3)).drop (i * 3)).length = (n - i) * 3 := by rw [List.length_drop, List.length_take, Array.length_toList, hcs]; omega
 have hvl : (cv.toList.take 3).length = 3 := by rw [List.length_take, Array.length_toList]; omega
 have htl : (cur.toList.take (i * 3)).length = i * 3 := by rw [List.length_take, Array.length_toList, hcs]; omega
 have hold : (Builtin.firstCells i0.size i (.slice (some ⟨b, 0, none⟩) i c)).run Try.prog w.drew = .ok (cur.toList.take (i * 3)).toArray w.drew := by
  rw [hzs]
  exact run_firstCells_some w.drew 3 i ⟨b, 0, none⟩ i c (cur.toList.take (i * 3)) htl (fun j v hj => by
   rw [Addr.add_lit, Nat.zero_add]
   rw [List.getElem?_take] at hj
   split at hj
   ·show w.drew.cell? ⟨b, j, none⟩ = some v
    have hb' : w.drew.heap[b]? = some (.cells cur 77 (0, 0)) := hb
    simp only [World.cell?, hb']
    rw [← Array.getElem?_toList]; exact hj
   ·cases hj)
 obtain ⟨G, hG⟩ : ∃ G, G = grownCap w (n + 1) c 77 := ⟨_, rfl⟩
 rw [← hG] at hROW ⊢
 have hrz : ∀ ty, (Builtin.append_ #[74, 3] ty #[.slice (some ⟨b, 0, none⟩) i c, .int .i64 ((n : Int) + 1 - (i : Int))]).run Try.prog w =
   .ok (.slice (some ⟨w.heap.size, 0, none⟩) (n + 1) G) (w.drew.alloc (.cells ROW 77)) := fun ty => by
  have h := Go.Lib.run_append_grow_zeros w 74 3 ty 77 i0 z .i64 .i64 Try.underlying74 Try.underlying3 hi0 hz0 (some ⟨b, 0, none⟩) i c (cur.toList.take (i * 3)) hold (n + 1 - i) (by omega) (by omega) (by omega) (by omega) (by rw [hzb]; omega) (by rw [hzb, hik]; exact growslice_fits (by omega) (by omega))
  rw [hik, ← hG, ← hROW] at h
  rw [hkk]
  exact h
 have hGn : n + 1 ≤ G := by rw [hG]; exact grownCap_ge w _ _ _
 have hG63 : G ≤ 9223372036854775807 := by
  have := grownCap_le_maxLen w (n + 1) c 77 (by unfold maxLen; omega)
  rw [← hG] at this
  unfold maxLen at this
  omega
 have hGi : ¬ (G = i) := by omega
 have hGim : ¬ (G = i + 1) := by omega
 have hRl : ROW.size = G * 3 := by
  rw [hROW, hz]
  simp [Builtin.zeroCells, Value.cells, htl]
  omega
 obtain ⟨r1, hr1⟩ : ∃ r1, r1 = ROW.toList.take (i * 3) ++ cv.toList.take 3 ++ ROW.toList.drop (i * 3 + 3) := ⟨_, rfl⟩
 rw [← hr1]
 have hl1 : r1.length = G * 3 := by
  rw [hr1, List.length_append, List.length_append, hvl, List.length_drop, List.length_take, Array.length_toList, hRl]; omega
 have hcpA : ∀ (W : World), W.heap = (w.drew.alloc (.cells ROW 77)).heap → ∀ ty dc, (Builtin.copy_ #[74, 74] ty #[.slice (some ⟨w.heap.size, i * 3, none⟩) (n + 1 - i) dc, .slice (some ⟨vb, 0, none⟩) 1 vc]).run Try.prog W = .ok (goInt (Nat.min 1 (n + 1 - i))) (W.setRow w.heap.size r1.toArray) := fun W hW ty dc => by
  have hWb : W.heap[w.heap.size]? = some (.cells ROW 77 (0, 0)) := by rw [hW]; show (w.heap.push _)[w.heap.size]? = _; simp
  have hWv : W.heap[vb]? = some (.cells cv 77 (0, 0)) := by
   rw [hW]
   show (w.heap.push _)[vb]? = _
   rw [Array.getElem?_push_lt hvw]
   exact (Array.getElem?_eq_getElem hvw).symm.trans hv
  have h := run_copy_rowN W 74 74 ty 77 3 w.heap.size (i * 3) (n + 1 - i) dc ⟨vb, 0, none⟩ 1 vc ROW 77 (cv.toList.take 3) Try.underlying74 hsz hWb (by rw [hvl]; simp only [Nat.min_def]; split <;> omega)
   (fun j v hj => by
    rw [Addr.add_lit]
    rw [List.getElem?_take] at hj
    split at hj
    ·simp only [World.cell?, hWv]
     rw [← Array.getElem?_toList]; simpa using hj
    ·cases hj) (by rw [hvl, hRl]; omega) h1v
  rw [hr1]
  rw [hvl] at h
  exact h
 have hcpB : ∀ (W : World), W.heap = ((w.drew.alloc (.cells ROW 77)).setRow w.heap.size r1.toArray).heap → ∀ ty dc sc, (Builtin.copy_ #[74, 74] ty #[.slice (some ⟨w.heap.size, (i + 1) * 3, none⟩) (n - i) dc, .slice (some ⟨b, i * 3, none⟩) (n - i) sc]).run Try.prog W = .ok (goInt (Nat.min (n - i) (n - i))) (W.setRow w.heap.size (r1.take ((i + 1) * 3) ++ (cur.toList.take (n * 3)).drop (i * 3) ++ r1.drop ((i + 1) * 3 + (n - i) * 3)).toArray) := fun W hW ty dc sc => by
  have hWb : W.heap[w.heap.size]? = some (.cells r1.toArray 77 (0, 0)) := by rw [hW]; exact setRow_heap _ _ ROW r1.toArray 77 (0, 0) (by show (w.heap.push _)[w.heap.size]? = _; simp)
  have hWo : W.heap[b]? = some (.cells cur 77 (0, 0)) := by
   rw [hW]
   simp only [World.setRow]
   rw [Array.getElem?_modify, if_neg (by omega)]
   show (w.heap.push _)[b]? = _
   rw [Array.getElem?_push_lt hbw]
   exact (Array.getElem?_eq_getElem hbw).symm.trans hb
  have h := run_copy_rowN W 74 74 ty 77 3 w.heap.size ((i + 1) * 3) (n - i) dc ⟨b, i * 3, none⟩ (n - i) sc r1.toArray 77 ((cur.toList.take (n * 3)).drop (i * 3)) Try.underlying74 hsz hWb (by rw [hdl]; simp only [Nat.min_def]; split <;> omega)
   (fun j v hj => by
    rw [Addr.add_lit]
    rw [List.getElem?_drop, List.getElem?_take] at hj
    split at hj
    ·simp only [World.cell?, hWo]
     rw [← Array.getElem?_toList]; simpa using hj
    ·cases hj) (by rw [hdl]; simp only [List.size_toArray, hl1]; omega) (fun v hv => h1c v (List.mem_of_mem_drop hv))
  rw [hdl] at h
  exact h
 have mixed : Try.prog.follows Departure.mixedOrders = true := by kernel_rfl
 clear hkk hik hold hROW hRl hr1 hl1 hG
 go_enter Try.func158, Try.ntmps158
 go_wp2_with (first
  | (at_builtin; refine Go.Lib.wpList_append_run _ rfl _ _ _ _ rfl _ _ rfl rfl _ _ (hrz _) ?_)
  | ((with_reducible refine gate_builtin (b := .copy) rfl ?_); refine wpList_copy_runI _ rfl _ _ 74 74 rfl _ _ rfl rfl (hcpA _ (by rfl) _ _) ?_)
  | ((with_reducible refine gate_builtin (b := .copy) rfl ?_); refine wpList_copy_runI _ rfl _ _ 74 74 rfl _ _ rfl rfl (hcpB _ (by rfl) _ _ _) ?_))
 go_region_law_o (refine step_copy_runI rfl _ _ 74 74 rfl (.slice (some ⟨w.heap.size, (i + 1) * 3, none⟩) (n - i) (G - (i + 1))) (.slice (some ⟨b, i * 3, none⟩) (n - i) (c - i)) (by simp [Act.eval, Act.put]) (by simp [Act.eval, Act.put]) (hcpB _ (by rfl) _ _ _) ?_)
 go_wp2
 go_ret
 exact ⟨rfl, by rw [List.append_assoc]⟩
set_option maxHeartbeats 4000000 in
set_option maxRecDepth 100000 in
theorem impl_IndexNode_158_end (P0_ : Nat → Prop) (u0 : Value) (l0 : List S77) (A2 : Option Addr) (c2 : Nat) (l2 : List S77) (w0 w : World) (hB : Below w0.heap.size w0 w) (ho0 : Kd.R k77 77 w w0.heap.size P0_ u0 l0)
  (hr2 : Kd.C k77 w A2 1 l2) (h2 : l2.length = 1) (hlim : l0.length < 5864062014804) :
  Calls Try.prog 158 #[u0, .int .i64 (l0.length : Int), .slice A2 1 c2] w fun e w' => ∃ v1, e = .returned v1 ∧ Kd.R k77 77 w' w0.heap.size (fun k_ => P0_ k_ ∨ w.heap.size ≤ k_) v1 (l0 ++ l2) ∧ Below w0.heap.size w0 w' ∧ w.grownBy w' u0.ownBlock := by
 have hu93 := Try.underlying77
 obtain ⟨A0, c0, e0⟩ := Kd.R_slice ho0
 subst e0
 have hnc := (Kd.R_reads' ho0).2.1
 have hz1 : ¬ ((1 : Int) = 0) := by omega
 have hin : (l0.length : Int) ≤ (l0.length : Int) := by omega
 have hO : Kd.R k77 77 w w0.heap.size (fun k_ => P0_ k_ ∨ w.heap.size ≤ k_) (.slice A0 l0.length c0) l0 := Kd.R_mono ho0 (fun _ h => .inl h)
 go_enter Try.func158, Try.ntmps158
 go_wp2_with ((with_reducible refine gate_builtin (b := .append) rfl ?_); refine Kd.R_append_rows k77 (w0 := w0) w0.heap.size rfl _ _ 74 77 (.agg #[(.int .i64 0), (.int .i64 0), (.int .i64 0)]) 24 rfl Try.underlying74 info77 rfl (by decide) (by omega) (.slice A0 l0.length c0) l0 l2 A2 1 c2 (fun k_ => P0_ k_ ∨ w.heap.size ≤ k_) (fun _ => False) rfl rfl hO hr2 (fun _ _ h => h) (fun _ h => h.elim) (fun _ h => .inr h) hB hB.size (by omega) ?_; intro v1 w1 hR hb hg hat)
 all_goals (go_ret; exact ⟨_, rfl, hR, hb, by cases A0 <;> exact hg⟩)

theorem impl_IndexNode_158_rowsize (w : World) (g : Nat) (cs : Array Value) : (w.setRow g cs).heap.size = w.heap.size := by simp only [World.setRow, Array.size_modify]
theorem impl_IndexNode_158_rowne (w : World) (g : Nat) (cs : Array Value) {k : Nat} (h : k ≠ g) : (w.setRow g cs).heap[k]? = w.heap[k]? := by
 simp only [World.setRow]
 rw [Array.getElem?_modify, if_neg (Ne.symm h)]
theorem impl_IndexNode_158_rowgrown (w : World) (g : Nat) (cs : Array Value) : w.grownBy (w.drew.setRow g cs) (some g) :=
 ⟨rfl, rfl, rfl, by show w.heap.size ≤ (w.heap.modify _ _).size; rw [Array.size_modify]; exact Nat.le_refl _, fun k hk hne => by
  show (w.drew.setRow g cs).heap[k]? = w.heap[k]?
  simp only [World.setRow]
  rw [Array.getElem?_modify, if_neg (fun h => hne (by rw [h]))]
  rfl⟩
def impl_IndexNode_158.f (l0 : List S77) (a1 : Int) (l2 : List S77) : Option (List S77) :=
 if 0 ≤ a1 ∧ a1 ≤ (l0.length : Int) ∧ l2.length = 1 ∧ l0.length < 5864062014804 then some (l0.take a1.toNat ++ l2 ++ l0.drop a1.toNat) else none
set_option maxHeartbeats 4000000 in
theorem impl_IndexNode_158.calls (P0_ : Nat → Prop) (u0 : Value) (l0 : List S77) (a1 : Int) (P2_ : Nat → Prop) (u2 : Value) (l2 : List S77) (r : List S77) (w0 w : World) (hB : Below w0.heap.size w0 w)
  (ho0 : Kd.R k77 77 w w0.heap.size P0_ u0 l0) (ha0 : ∀ k, P0_ k → ¬ P2_ k) (ho2 : Kd.R k77 77 w w0.heap.size P2_ u2 l2) (ha2 : ∀ k, P2_ k → ¬ P0_ k) (h : impl_IndexNode_158.f l0 a1 l2 = some r) :
  Calls Try.prog 158 #[u0, .int .i64 a1, u2] w fun e w' => ∃ v0_ : Value, e = .returned v0_ ∧ Kd.R k77 77 w' w0.heap.size (fun k_ => ((P0_ k_ ∨ P2_ k_) ∨ w.heap.size ≤ k_)) v0_ r ∧ Below w0.heap.size w0 w' ∧ Kept w w' (fun k_ => P0_ k_ ∨ P2_ k_) := by
 unfold impl_IndexNode_158.f at h
 split at h
 rotate_left 1
 ·cases h
 rename_i hp
 obtain ⟨p0, p1, p2, p3⟩ := hp
 injection h with h
 subst h
 obtain ⟨i, rfl⟩ := Int.eq_ofNat_of_zero_le p0
 have hE : k77.E = [] := rfl
 have hsz : k77.sz = 3 := rfl
 rw [Int.toNat_natCast]
 rcases Kd.R_open hE ho2 with ⟨_, rfl⟩ | ⟨vb, vc, cv, rfl, hvb, hPv, hgv, hvn, hvc, hvs, hvr, hv1⟩
 ·simp at p2
 have hc2 := (Kd.R_reads' ho2).2.2
 rw [p2] at hc2 ⊢
 rw [p2, hsz] at hvr hv1
 rw [hsz] at hvs
 have hvsz : 3 ≤ cv.size := by omega
 by_cases hin : i = l0.length
 ·subst hin
  refine (impl_IndexNode_158_end P0_ u0 l0 (some ⟨vb, 0, none⟩) vc l2 w0 w hB ho0 hc2 p2 p3).mono fun e w' hh => ?_
  obtain ⟨v1, rfl, hR, hb, hg⟩ := hh
  refine ⟨v1, rfl, ?_, hb, Kept.of_grown hg (Kept.refl w _) (fun k hk => .inl (.inl (ho0.1 k hk)))⟩
  rw [List.take_length, List.drop_length, List.append_nil]
  exact Kd.R_mono hR (fun k hk => hk.elim (fun h => .inl (.inl h)) .inr)
 have hin' : i < l0.length := by omega
 rcases Kd.R_open hE ho0 with ⟨_, rfl⟩ | ⟨b, c, cur, rfl, hb0, hPb, hgb, hnc, hcm, hcs, hcr, hc1⟩
 ·simp at hin'
 rw [hsz] at hcs hcr hc1
 have hcl : cur.toList.length = c * 3 := by rw [Array.length_toList, hcs]
 have hvb' : vb ≠ b := fun e => ha0 b hPb (e ▸ hPv)
 have hcm' : c ≤ 9223372036854775807 := by unfold maxLen at hcm; omega
 have hrl : (l0.take i ++ l2 ++ l0.drop i).length = l0.length + 1 := by rw [List.length_append, List.length_append, List.length_take, List.length_drop, p2]; omega
 have hreps : ∀ (W : World) (ok' : Nat → Prop), Reps (k77.M W w0.heap.size ok') 3 (l0.take i ++ l2 ++ l0.drop i) ((cur.toList.take (l0.length * 3)).take (i * 3) ++ cv.toList.take 3 ++ (cur.toList.take (l0.length * 3)).drop (i * 3)) := fun W ok' =>
  Kd.reps_append (Kd.reps_append (Kd.reps_take (hcr W ok') (by omega)) (by have := hvr W ok'; simpa using this)) (Kd.reps_drop (hcr W ok'))
 have htk : ∀ rest : List Value, ((cur.toList.take (l0.length * 3)).take (i * 3) ++ cv.toList.take 3 ++ (cur.toList.take (l0.length * 3)).drop (i * 3) ++ rest).take ((l0.length + 1) * 3) = (cur.toList.take (l0.length * 3)).take (i * 3) ++ cv.toList.take 3 ++ (cur.toList.take (l0.length * 3)).drop (i * 3) := fun rest => by
  have hl := (hreps w (fun _ => True)).1
  rw [hrl] at hl
  exact List.take_left' hl
 have hv1' : ∀ u ∈ cv.toList.take 3, u.oneCell' = true := by simpa using hv1
 by_cases hroom : l0.length + 1 ≤ c
 ·refine (impl_IndexNode_158_shift b l0.length c i vb vc cur cv w hin' hroom hcm' hvb' hgb hgv hcs hvsz hc1 hv1').mono fun e w' hh => ?_
  obtain ⟨rfl, rfl⟩ := hh
  have hg := impl_IndexNode_158_rowgrown w b ((cur.toList.take (l0.length * 3)).take (i * 3) ++ cv.toList.take 3 ++ (cur.toList.take (l0.length * 3)).drop (i * 3) ++ cur.toList.drop (l0.length * 3 + 3)).toArray
  refine ⟨_, rfl, ?_, pw_below_grown hB (some b) hB.size hg (fun k hk => by injection hk with hk; omega), Kept.of_grown hg (Kept.refl w _) (fun k hk => by injection hk with hk; subst hk; exact .inl (.inl hPb))⟩
  have hR := Kd.R_close (d := k77) (e := 77) (base := w0.heap.size) (ok := fun k_ => ((P0_ k_ ∨ P2_ k_) ∨ w.heap.size ≤ k_)) (xs := l0.take i ++ l2 ++ l0.drop i) (cap := c) hb0 (.inl (.inl hPb))
   (setRow_heap w.drew b cur ((cur.toList.take (l0.length * 3)).take (i * 3) ++ cv.toList.take 3 ++ (cur.toList.take (l0.length * 3)).drop (i * 3) ++ cur.toList.drop (l0.length * 3 + 3)).toArray 77 (0, 0) hgb)
   (by rw [hrl]; exact hroom) hcm (by
    have hl := (hreps w (fun _ => True)).1
    rw [hrl] at hl
    rw [hsz, List.size_toArray, List.length_append, hl, List.length_drop, hcl]; omega) (by rw [hsz, hrl]; show Reps _ _ _ (List.take _ _); rw [htk]; exact hreps _ _)
  rw [hrl] at hR
  exact hR
 ·have hG := grownCap_ge w (l0.length + 1) c 77
  have hGm := grownCap_le_maxLen w (l0.length + 1) c 77 (by unfold maxLen; omega)
  obtain ⟨ROW, hROW⟩ : ∃ ROW : Array Value, ROW = (cur.toList.take (i * 3)).toArray ++ Builtin.zeroCells (Value.agg #[.int .i64 0, .int .i64 0, .int .i64 0]).cells (l0.length + 1 - i) ++ Builtin.zeroCells (Value.agg #[.int .i64 0, .int .i64 0, .int .i64 0]).cells (grownCap w (l0.length + 1) c 77 - (l0.length + 1)) := ⟨_, rfl⟩
  have htl : (cur.toList.take (i * 3)).length = i * 3 := by rw [List.length_take, hcl]; omega
  have hRl : ROW.toList.length = grownCap w (l0.length + 1) c 77 * 3 := by
   rw [Array.length_toList, hROW]
   simp [Builtin.zeroCells, Value.cells, htl]
   omega
  have hRt : ROW.toList.take (i * 3) = cur.toList.take (i * 3) := by
   rw [hROW, Array.toList_append, Array.toList_append, List.append_assoc]
   exact List.take_left' htl
  have hvl : (cv.toList.take 3).length = 3 := by rw [List.length_take, Array.length_toList]; omega
  have hfin := grow_cells ROW.toList cur.toList (cv.toList.take 3) (i * 3) 3 (l0.length * 3) (by omega) (by rw [hRl]; omega) (by rw [hcl]; omega) hvl hRt
  rw [hvl, show ((cur.toList.take (l0.length * 3)).drop (i * 3)).length = (l0.length - i) * 3 from by rw [List.length_drop, List.length_take, hcl]; omega] at hfin
  refine (impl_IndexNode_158_grow b l0.length c i vb vc cur cv w hin' hnc (by omega) (by omega) hgb hgv hcs hvsz hc1 hv1' _ rfl ROW hROW).mono fun e w' hh => ?_
  obtain ⟨rfl, rfl⟩ := hh
  rw [show (i + 1) * 3 = i * 3 + 3 from by omega, hfin]
  obtain ⟨NC, hNC⟩ : ∃ NC : List Value, NC = (cur.toList.take (l0.length * 3)).take (i * 3) ++ cv.toList.take 3 ++ (cur.toList.take (l0.length * 3)).drop (i * 3) ++ ROW.toList.drop (l0.length * 3 + 3) := ⟨_, rfl⟩
  rw [← hNC]
  have hb : Below w.heap.size w (((w.alloc (.cells ROW 77)).drew.setRow w.heap.size (ROW.toList.take (i * 3) ++ cv.toList.take 3 ++ ROW.toList.drop (i * 3 + 3)).toArray).drew.setRow w.heap.size NC.toArray) := by
   refine ⟨rfl, rfl, rfl, ?_, fun k hk => ?_⟩
   ·rw [impl_IndexNode_158_rowsize]
    show w.heap.size ≤ ((w.alloc (.cells ROW 77)).drew.setRow w.heap.size _).heap.size
    rw [impl_IndexNode_158_rowsize]
    show w.heap.size ≤ (w.heap.push _).size
    rw [Array.size_push]; omega
   ·rw [impl_IndexNode_158_rowne _ _ _ (by omega)]
    show ((w.alloc (.cells ROW 77)).drew.setRow w.heap.size _).heap[k]? = w.heap[k]?
    rw [impl_IndexNode_158_rowne _ _ _ (by omega)]
    show (w.heap.push _)[k]? = w.heap[k]?
    rw [Array.getElem?_push_lt hk]
    exact (Array.getElem?_eq_getElem hk).symm
  refine ⟨_, rfl, ?_, below_then hB hB.size hb, Kept.of_below hb _⟩
  have hR := Kd.R_close (d := k77) (e := 77) (base := w0.heap.size) (ok := fun k_ => ((P0_ k_ ∨ P2_ k_) ∨ w.heap.size ≤ k_)) (xs := l0.take i ++ l2 ++ l0.drop i) (cap := grownCap w (l0.length + 1) c 77) (g := w.heap.size) hB.size (.inr (Nat.le_refl _))
   (setRow_heap ((w.alloc (.cells ROW 77)).drew.setRow w.heap.size (ROW.toList.take (i * 3) ++ cv.toList.take 3 ++ ROW.toList.drop (i * 3 + 3)).toArray).drew w.heap.size _ NC.toArray 77 (0, 0)
    (setRow_heap (w.alloc (.cells ROW 77)).drew w.heap.size ROW _ 77 (0, 0) (by show (w.heap.push _)[w.heap.size]? = _; simp)))
   (by rw [hrl]; exact hG) hGm (by
    have hl := (hreps w (fun _ => True)).1
    rw [hrl] at hl
    rw [hsz, List.size_toArray, hNC, List.length_append, hl, List.length_drop, hRl]; omega) (by rw [hsz, hrl]; show Reps _ _ _ (List.take _ NC); rw [hNC, htk]; exact hreps _ _)
  rw [hrl] at hR
  exact hR

end

/-! ### impl_SplitNode: function 81 -/
def impl_SplitNode.f (k : Nat) (l0 : List (S77)) (a1 : Int) : Option ((List (S77)) × Bool) := (impl_IndexNode_156_b7.f k l0 a1).bind fun t275 => ((impl_IndexNode_127.f l0).bind fun t276 => (if t275 < 0 then (some (t276, false)) else ((impl_IsIndex.f k l0).bind fun t279 => (if t279 = true then (if 0 ≤ t275 then (if t275 < (l0.length : Int) then (if t275 < (t276.length : Int) then ((impl_IndexNode_158.f (t276.set (t275 : Int).toNat (⟨(rd_T77 t276 t275).f0, wrap64 (a1 - 1), (rd_T77 t276 t275).f2⟩ : S77)) (wrap64 (t275 + 1)) (([(⟨a1, (rd_T77 l0 t275).f1, (rd_T77 l0 t275).f2⟩ : S77)] : List (S77)))).bind fun t287 => (some (t287, true))) else (none)) else (none)) else (none)) else (some (t276, false))))))
theorem impl_SplitNode.mono : ∀ a0 a1 k, LeO (impl_SplitNode.f k a0 a1) (impl_SplitNode.f (k + 1) a0 a1) := by
 intro a0 a1 k
 unfold impl_SplitNode.f
 repeat' first
   | (with_reducible exact impl_IndexNode_156_b7.mono _ _ _)
   | (with_reducible exact impl_IsIndex.mono _ _)
   | (with_reducible exact LeO.refl _)
   | (with_reducible exact LeO.none _)
   | (with_reducible refine LeO.ite ?_ ?_)
   | (with_reducible refine LeO.bind ?_ (fun _ => ?_))
   | exact impl_IndexNode_156_b7.mono _ _ _
   | exact impl_IsIndex.mono _ _
   | exact LeO.none _
   | refine LeO.ite ?_ ?_
   | refine LeO.bind ?_ (fun _ => ?_)
def impl_SplitNode.T5 : Bool × List (List Nat × List Nat) := (true, [([], []), ([], []), ([], []), ([1, 2], [1, 2]), ([3], [3]), ([4], [4]), ([], []), ([], []), ([6, 7], [6, 7]), ([8], [8]), ([9], [9]), ([0, 5, 10], [0, 5, 10]), ([], []), ([12, 11, 0, 1, 2, 3, 4, 5, 6, 7, 8, 9, 10, 11, 12], [11, 12])])
def impl_SplitNode.B5 : List Nat := [0, 0, 0, 6, 14, 30, 0, 0, 192, 448, 960, 2047, 0, 8191]
theorem impl_SplitNode.tab5 : rtab .any (opsOf Try.f81 5) = impl_SplitNode.T5 := by kernel_rfl
theorem impl_SplitNode.bits5 : waitsOk impl_SplitNode.T5.2 impl_SplitNode.B5 = true := by kernel_rfl
set_option maxHeartbeats 8000000 in
set_option maxRecDepth 100000 in
theorem impl_SplitNode.calls (k : Nat) (A0 : Option Addr) (c0 : Nat) (l0 : List (S77)) (a1 : Int) (r1 : List (S77)) (r2 : Bool) (w : World) (hr0 : Kd.C k77 w A0 l0.length l0) (hc0 : l0.length ≤ c0) (h : impl_SplitNode.f k l0 a1 = some (r1, r2)) :
  Calls Try.prog 81 #[.slice A0 l0.length c0, .int .i64 a1] w fun e w' => ∃ v0_ : Value, e = .returned (.tuple #[v0_, .bool r2]) ∧ Kd.R k77 77 w' w.heap.size (fun _ => True) v0_ r1 ∧ Below w.heap.size w w' := by
 have hu77 := Try.underlying77
 have HR0 := AM_ hr0
 have HC0 := AM_ hc0
 clear hr0 hc0
 have HB := AM_ (Below.refl w.heap.size w)
 have H : ((impl_IndexNode_156_b7.f k l0 a1).bind fun t275 => ((impl_IndexNode_127.f l0).bind fun t276 => (if t275 < 0 then (some (t276, false)) else ((impl_IsIndex.f k l0).bind fun t279 => (if t279 = true then (if 0 ≤ t275 then (if t275 < (l0.length : Int) then (if t275 < (t276.length : Int) then ((impl_IndexNode_158.f (t276.set (t275 : Int).toNat (⟨(rd_T77 t276 t275).f0, wrap64 (a1 - 1), (rd_T77 t276 t275).f2⟩ : S77)) (wrap64 (t275 + 1)) (([(⟨a1, (rd_T77 l0 t275).f1, (rd_T77 l0 t275).f2⟩ : S77)] : List (S77)))).bind fun t287 => (some (t287, true))) else (none)) else (none)) else (none)) else (some (t276, false))))))) = some (r1, r2) := h
 clear h
 replace H := Option.bind_eq_some_iff.mp H
 obtain ⟨t275, A30, H⟩ := H
 replace H : ((impl_IndexNode_127.f l0).bind fun t276 => (if t275 < 0 then (some (t276, false)) else ((impl_IsIndex.f k l0).bind fun t279 => (if t279 = true then (if 0 ≤ t275 then (if t275 < (l0.length : Int) then (if t275 < (t276.length : Int) then ((impl_IndexNode_158.f (t276.set (t275 : Int).toNat (⟨(rd_T77 t276 t275).f0, wrap64 (a1 - 1), (rd_T77 t276 t275).f2⟩ : S77)) (wrap64 (t275 + 1)) (([(⟨a1, (rd_T77 l0 t275).f1, (rd_T77 l0 t275).f2⟩ : S77)] : List (S77)))).bind fun t287 => (some (t287, true))) else (none)) else (none)) else (none)) else (some (t276, false)))))) = some (r1, r2) := H
 have A3 := AM_ A30
 clear A30
 replace H := Option.bind_eq_some_iff.mp H
 obtain ⟨t276, A40, H⟩ := H
 replace H : (if t275 < 0 then (some (t276, false)) else ((impl_IsIndex.f k l0).bind fun t279 => (if t279 = true then (if 0 ≤ t275 then (if t275 < (l0.length : Int) then (if t275 < (t276.length : Int) then ((impl_IndexNode_158.f (t276.set (t275 : Int).toNat (⟨(rd_T77 t276 t275).f0, wrap64 (a1 - 1), (rd_T77 t276 t275).f2⟩ : S77)) (wrap64 (t275 + 1)) (([(⟨a1, (rd_T77 l0 t275).f1, (rd_T77 l0 t275).f2⟩ : S77)] : List (S77)))).bind fun t287 => (some (t287, true))) else (none)) else (none)) else (none)) else (some (t276, false))))) = some (r1, r2) := H
 have A4 := AM_ A40
 clear A40
 by_cases c5 : t275 < 0
 ·rw [if_pos c5] at H
  have c5b0 : decide (t275 < 0) = true := decide_eq_true c5
  clear c5
  simp only [Option.some.injEq, Prod.mk.injEq] at H
  obtain ⟨rfl, rfl⟩ := H
  go_enter Try.func81, Try.ntmps81
  go_wp2_with (first | ((with_reducible refine gate_dst (N := 3) rfl ?_); refine box_event ?hg (N := 3) ?hd (cs := #[.int .i64 a1]) (t := 3) ?hr ?_; (case hd => rfl); (case hg => rfl); (case hr => first | (go_simp; done) | (go_simp; rfl)); intro gb274 hg w6 hbox hb; have n0_ := AM_ (below_step (by exact BL HB.out rfl rfl rfl rfl) hb); have n1_ := AM_ (hbox); have n2_ := AM_ ((by rw [hg]; exact (below_size (by exact BL HB.out rfl rfl rfl rfl)) : w.heap.size ≤ gb274)); have n3_ := AM_ ((by rw [hg]; exact (below_size (by exact BL HB.out rfl rfl rfl rfl)) : w.heap.size ≤ gb274)); clear HB; have HB := n0_; have BK274 := n1_; have GW274 := n2_; have GE274 := n3_; clear n0_ n1_ n2_ n3_; clear hb hbox hg) | ((with_reducible refine gate_callee (f := 156) rfl ?_); refine goesL_ (some 11) rfl rfl Try.func156 (by kernel_rfl) rfl #[.slice A0 l0.length c0, .func (.func 157) #[] #[.pointer (some ⟨gb274, 0, none⟩)]] rfl (by (try simp only [List.map_toArray, List.map_cons, List.map_nil]); first | done | rfl | (simp only [List.length_drop, List.length_take]; rfl)) ?_; (with_reducible refine (impl_IndexNode_156_b7.calls k _ _ l0 gb274 a1 t275 _ ?side1 ?side2 ?side3 A3.out).mono ?_); (case side1 => exact Kd.C_below (Kd.C_below HR0.out HB.out) (BL (Below.refl _ _) rfl rfl rfl rfl)); (case side2 => exact HC0.out); (case side3 => exact by (with_reducible repeat (first | refine blk_drewN ?_ _ | refine blk_drew ?_ | refine blk_alloc ?_ _)); exact BK274.out); rintro e w7 ⟨rfl, hb⟩; refine ⟨_, rfl, ?_⟩; have n0_ := AM_ (blk_below (g := gb274) (o := .cells #[.int .i64 a1] 3 (0, 0)) (by (with_reducible repeat (first | refine blk_drewN ?_ _ | refine blk_drew ?_ | refine blk_alloc ?_ _)); exact BK274.out) hb); have n1_ := AM_ (below_step (by repeat (first | (with_reducible first | exact HB.out | apply below_alloc | apply pw_below_drewN | apply below_drew1 | refine below_set ?_ GE274.out) | exact HB.out)) hb); clear BK274; clear HB; have BK274 := n0_; have HB := n1_; clear n0_ n1_; (try clear hb); (try clear hb2); (try clear hk); (try clear hi)) | ((with_reducible refine gate_callee (f := 127) rfl ?_); refine goesL_ (some 13) rfl rfl Try.func127 (by kernel_rfl) rfl #[.slice A0 l0.length c0] rfl (by (try simp only [List.map_toArray, List.map_cons, List.map_nil]); first | done | rfl | (simp only [List.length_drop, List.length_take]; rfl)) ?_; (with_reducible refine (impl_IndexNode_127.calls _ _ l0 t276 _ ?side1 ?side2 A4.out).mono ?_); (case side1 => exact Kd.C_below (Kd.C_below HR0.out HB.out) (BL (Below.refl _ _) rfl rfl rfl rfl)); (case side2 => exact HC0.out); rintro e w8 ⟨v277, rfl, ho0, hb⟩; refine ⟨_, rfl, ?_⟩; have n0_ := AM_ (Kd.R_lower ho0 (below_size (by repeat (first | (with_reducible first | exact HB.out | apply below_alloc | apply pw_below_drewN | apply below_drew1 | refine below_set ?_ GE274.out) | exact HB.out)))); have n1_ := AM_ (blk_below (g := gb274) (o := .cells #[.int .i64 a1] 3 (0, 0)) (by (with_reducible repeat (first | refine blk_drewN ?_ _ | refine blk_drew ?_ | refine blk_alloc ?_ _)); exact BK274.out) hb); have n2_ := AM_ (below_step (by repeat (first | (with_reducible first | exact HB.out | apply below_alloc | apply pw_below_drewN | apply below_drew1 | refine below_set ?_ GE274.out) | exact HB.out)) hb); clear BK274; clear HB; have HO278 := n0_; have BK274 := n1_; have HB := n2_; clear n0_ n1_ n2_; (try clear hb); (try clear hb2); (try clear hk); (try clear hi); (try clear ho0)))
  go_ret2
  exact ⟨_, by first | rfl | (simp [errW_none, errW_some] <;> rfl) | (simp [*, errW_none, errW_some] <;> rfl), by exact RL HO278.out rfl, by repeat (first | (with_reducible first | exact HB.out | apply below_alloc | apply pw_below_drewN | apply below_drew1 | refine below_set ?_ GE274.out) | exact HB.out)⟩
 ·rw [if_neg c5] at H
  have c5b0 : decide (t275 < 0) = false := decide_eq_false c5
  clear c5
  replace H := Option.bind_eq_some_iff.mp H
  obtain ⟨t279, A90, H⟩ := H
  replace H : (if t279 = true then (if 0 ≤ t275 then (if t275 < (l0.length : Int) then (if t275 < (t276.length : Int) then ((impl_IndexNode_158.f (t276.set (t275 : Int).toNat (⟨(rd_T77 t276 t275).f0, wrap64 (a1 - 1), (rd_T77 t276 t275).f2⟩ : S77)) (wrap64 (t275 + 1)) (([(⟨a1, (rd_T77 l0 t275).f1, (rd_T77 l0 t275).f2⟩ : S77)] : List (S77)))).bind fun t287 => (some (t287, true))) else (none)) else (none)) else (none)) else (some (t276, false))) = some (r1, r2) := H
  have A9 := AM_ A90
  clear A90
  by_cases c10 : t279 = true
  ·subst c10
   have H1 : (if 0 ≤ t275 then (if t275 < (l0.length : Int) then (if t275 < (t276.length : Int) then ((impl_IndexNode_158.f (t276.set (t275 : Int).toNat (⟨(rd_T77 t276 t275).f0, wrap64 (a1 - 1), (rd_T77 t276 t275).f2⟩ : S77)) (wrap64 (t275 + 1)) (([(⟨a1, (rd_T77 l0 t275).f1, (rd_T77 l0 t275).f2⟩ : S77)] : List (S77)))).bind fun t287 => (some (t287, true))) else (none)) else (none)) else (none)) = some (r1, r2) := by rw [if_pos rfl] at H; exact H
   clear H
   have H := H1
   clear H1
   by_cases c11 : 0 ≤ t275
   ·rw [if_pos c11] at H
    have c11b0 : decide (0 ≤ t275) = true := decide_eq_true c11
    clear c11
    by_cases c12 : t275 < (l0.length : Int)
    ·rw [if_pos c12] at H
     have c12b0 : decide (t275 < (l0.length : Int)) = true := decide_eq_true c12
     clear c12
     by_cases c13 : t275 < (t276.length : Int)
     ·rw [if_pos c13] at H
      have c13b0 : decide (t275 < (t276.length : Int)) = true := decide_eq_true c13
      clear c13
      obtain ⟨y283, hy283⟩ : ∃ y_ : List (S77), y_ = (t276.set (t275 : Int).toNat (⟨(rd_T77 t276 t275).f0, wrap64 (a1 - 1), (rd_T77 t276 t275).f2⟩ : S77)) := ⟨_, rfl⟩
      replace H : ((impl_IndexNode_158.f y283 (wrap64 (t275 + 1)) (([(⟨a1, (rd_T77 l0 t275).f1, (rd_T77 l0 t275).f2⟩ : S77)] : List (S77)))).bind fun t287 => (some (t287, true))) = some (r1, r2) := by first | (rw [hy283]; with_reducible exact H) | (have H2_ := (Option.bind_some _ _).symm.trans H; rw [hy283]; with_reducible exact H2_) | (have H2_ := (Option.bind_some _ _).symm.trans H; with_reducible exact H2_) | with_reducible exact H | (rw [hy283]; exact H) | exact H
      have Ny283 := AM_ hy283
      clear hy283
      obtain ⟨y284, hy284⟩ : ∃ y_ : List (S77), y_ = (([(⟨a1, (rd_T77 l0 t275).f1, (rd_T77 l0 t275).f2⟩ : S77)] : List (S77))) := ⟨_, rfl⟩
      replace H : ((impl_IndexNode_158.f y283 (wrap64 (t275 + 1)) y284).bind fun t287 => (some (t287, true))) = some (r1, r2) := by first | (rw [hy284]; with_reducible exact H) | (have H2_ := (Option.bind_some _ _).symm.trans H; rw [hy284]; with_reducible exact H2_) | (have H2_ := (Option.bind_some _ _).symm.trans H; with_reducible exact H2_) | with_reducible exact H | (rw [hy284]; exact H) | exact H
      have Ny284 := AM_ hy284
      clear hy284
      replace H := Option.bind_eq_some_iff.mp H
      obtain ⟨t287, A150, H⟩ := H
      replace H : (some (t287, true)) = some (r1, r2) := H
      have A15 := AM_ A150
      clear A150
      simp only [Option.some.injEq, Prod.mk.injEq] at H
      obtain ⟨rfl, rfl⟩ := H
      go_enter Try.func81, Try.ntmps81
      try go_wp2_with (first | ((with_reducible refine gate_dst (N := 3) rfl ?_); refine box_event ?hg (N := 3) ?hd (cs := #[.int .i64 a1]) (t := 3) ?hr ?_; (case hd => rfl); (case hg => rfl); (case hr => first | (go_simp; done) | (go_simp; rfl)); intro gb274 hg w16 hbox hb; have n0_ := AM_ (below_step (by exact BL HB.out rfl rfl rfl rfl) hb); have n1_ := AM_ (hbox); have n2_ := AM_ ((by rw [hg]; exact (below_size (by exact BL HB.out rfl rfl rfl rfl)) : w.heap.size ≤ gb274)); have n3_ := AM_ ((by rw [hg]; exact (below_size (by exact BL HB.out rfl rfl rfl rfl)) : w.heap.size ≤ gb274)); clear HB; have HB := n0_; have BK274 := n1_; have GW274 := n2_; have GE274 := n3_; clear n0_ n1_ n2_ n3_; clear hb hbox hg) | ((with_reducible refine gate_callee (f := 156) rfl ?_); refine goesL_ (some 11) rfl rfl Try.func156 (by kernel_rfl) rfl #[.slice A0 l0.length c0, .func (.func 157) #[] #[.pointer (some ⟨gb274, 0, none⟩)]] rfl (by (try simp only [List.map_toArray, List.map_cons, List.map_nil]); first | done | rfl | (simp only [List.length_drop, List.length_take]; rfl)) ?_; (with_reducible refine (impl_IndexNode_156_b7.calls k _ _ l0 gb274 a1 t275 _ ?side1 ?side2 ?side3 A3.out).mono ?_); (case side1 => exact Kd.C_below (Kd.C_below HR0.out HB.out) (BL (Below.refl _ _) rfl rfl rfl rfl)); (case side2 => exact HC0.out); (case side3 => exact by (with_reducible repeat (first | refine blk_drewN ?_ _ | refine blk_drew ?_ | refine blk_alloc ?_ _)); exact BK274.out); rintro e w17 ⟨rfl, hb⟩; refine ⟨_, rfl, ?_⟩; have n0_ := AM_ (blk_below (g := gb274) (o := .cells #[.int .i64 a1] 3 (0, 0)) (by (with_reducible repeat (first | refine blk_drewN ?_ _ | refine blk_drew ?_ | refine blk_alloc ?_ _)); exact BK274.out) hb); have n1_ := AM_ (below_step (by repeat (first | (with_reducible first | exact HB.out | apply below_alloc | apply pw_below_drewN | apply below_drew1 | refine below_set ?_ GE274.out) | exact HB.out)) hb); clear BK274; clear HB; have BK274 := n0_; have HB := n1_; clear n0_ n1_; (try clear hb); (try clear hb2); (try clear hk); (try clear hi)) | ((with_reducible refine gate_callee (f := 127) rfl ?_); refine goesL_ (some 13) rfl rfl Try.func127 (by kernel_rfl) rfl #[.slice A0 l0.length c0] rfl (by (try simp only [List.map_toArray, List.map_cons, List.map_nil]); first | done | rfl | (simp only [List.length_drop, List.length_take]; rfl)) ?_; (with_reducible refine (impl_IndexNode_127.calls _ _ l0 t276 _ ?side1 ?side2 A4.out).mono ?_); (case side1 => exact Kd.C_below (Kd.C_below HR0.out HB.out) (BL (Below.refl _ _) rfl rfl rfl rfl)); (case side2 => exact HC0.out); rintro e w18 ⟨v277, rfl, ho0, hb⟩; refine ⟨_, rfl, ?_⟩; have n0_ := AM_ (Kd.R_lower ho0 (below_size (by repeat (first | (with_reducible first | exact HB.out | apply below_alloc | apply pw_below_drewN | apply below_drew1 | refine below_set ?_ GE274.out) | exact HB.out)))); have n1_ := AM_ (blk_below (g := gb274) (o := .cells #[.int .i64 a1] 3 (0, 0)) (by (with_reducible repeat (first | refine blk_drewN ?_ _ | refine blk_drew ?_ | refine blk_alloc ?_ _)); exact BK274.out) hb); have n2_ := AM_ (below_step (by repeat (first | (with_reducible first | exact HB.out | apply below_alloc | apply pw_below_drewN | apply below_drew1 | refine below_set ?_ GE274.out) | exact HB.out)) hb); clear BK274; clear HB; have HO278 := n0_; have BK274 := n1_; have HB := n2_; clear n0_ n1_ n2_; (try clear hb); (try clear hb2); (try clear hk); (try clear hi); (try clear ho0)) | (go_at_call 56; (with_reducible refine (impl_IsIndex.calls k _ _ l0 true _ ?side1 ?side2 A9.out).mono ?_); (case side1 => exact Kd.C_below (Kd.C_below HR0.out HB.out) (BL (Below.refl _ _) rfl rfl rfl rfl)); (case side2 => exact HC0.out); rintro e w19 ⟨rfl, hb⟩; have n0_ := AM_ (Kd.R_below (by exact RL HO278.out rfl) hb); have n1_ := AM_ (blk_below (g := gb274) (o := .cells #[.int .i64 a1] 3 (0, 0)) (by (with_reducible repeat (first | refine blk_drewN ?_ _ | refine blk_drew ?_ | refine blk_alloc ?_ _)); exact BK274.out) hb); have n2_ := AM_ (below_step (by repeat (first | (with_reducible first | exact HB.out | apply below_alloc | apply pw_below_drewN | apply below_drew1 | refine below_set ?_ GE274.out) | exact HB.out)) hb); clear HO278; clear BK274; clear HB; have HO278 := n0_; have BK274 := n1_; have HB := n2_; clear n0_ n1_ n2_; (try clear hb); (try clear hb2); (try clear hk); (try clear hi)))
      have n0_ := AM_ (Kd.R_drew HO278.out)
      have n1_ := AM_ (blk_drew BK274.out)
      have n2_ := AM_ (below_drew1 HB.out)
      clear HO278
      clear BK274
      clear HB
      have HO278 := n0_
      have BK274 := n1_
      have HB := n2_
      clear n0_ n1_ n2_
      have p280 : 0 ≤ (t275 : Int) := of_decide_eq_true (by first | (with_reducible assumption) | assumption)
      have q280 : t275 < (l0.length : Int) := of_decide_eq_true (by first | (with_reducible assumption) | assumption)
      obtain ⟨ad280, e280, hx280_0, hx280_1, hx280_2⟩ := at_T77 HR0.out t275 p280 q280
      have hw280_2 := hx280_2
      have hw280_1 := hx280_1
      have hw280_0 := hx280_0
      cases e280
      replace hx280_0 := BC HB.out hx280_0
      replace hx280_1 := BC HB.out hx280_1
      replace hx280_2 := BC HB.out hx280_2
      replace p280 := eq_true p280
      replace q280 := eq_true q280
      have p281 : 0 ≤ (t275 : Int) := of_decide_eq_true (by first | (with_reducible assumption) | assumption)
      have q281 : t275 < (l0.length : Int) := of_decide_eq_true (by first | (with_reducible assumption) | assumption)
      obtain ⟨ad281, e281, hx281_0, hx281_1, hx281_2⟩ := at_T77 HR0.out t275 p281 q281
      have hw281_2 := hx281_2
      have hw281_1 := hx281_1
      have hw281_0 := hx281_0
      obtain rfl : ad280 = ad281 := (by injection e281)
      replace hx281_0 := BC HB.out hx281_0
      replace hx281_1 := BC HB.out hx281_1
      replace hx281_2 := BC HB.out hx281_2
      replace p281 := eq_true p281
      replace q281 := eq_true q281
      refine start_ (n := 14) (S := fun w' => w'.cell? ⟨gb274, 0, none⟩ = some (.int .i64 a1) ∧ w'.cell? (ad280.add ((t275).toNat * 3)) = some (.int .i64 ((rd_T77 l0 t275).f0)) ∧ w'.cell? ⟨(ad280.add ((t275).toNat * 3)).block, (ad280.add ((t275).toNat * 3)).off + 1, none⟩ = some (.int .i64 ((rd_T77 l0 t275).f1)) ∧ w'.cell? ⟨(ad280.add ((t275).toNat * 3)).block, (ad280.add ((t275).toNat * 3)).off + 2, none⟩ = some (.int .i64 ((rd_T77 l0 t275).f2)) ∧ w'.cell? (ad280.add ((t275).toNat * 3)) = some (.int .i64 ((rd_T77 l0 t275).f0)) ∧ w'.cell? ⟨(ad280.add ((t275).toNat * 3)).block, (ad280.add ((t275).toNat * 3)).off + 1, none⟩ = some (.int .i64 ((rd_T77 l0 t275).f1)) ∧ w'.cell? ⟨(ad280.add ((t275).toNat * 3)).block, (ad280.add ((t275).toNat * 3)).off + 2, none⟩ = some (.int .i64 ((rd_T77 l0 t275).f2))) (ds := []) (bs 0 14) (by kernel_rfl) rfl rfl ⟨(blk_cell BK274.out 0).trans rfl, (BD HB.out hw280_0), (BD HB.out hw280_1), (BD HB.out hw280_2), (BD HB.out hw281_0), (BD HB.out hw281_1), (BD HB.out hw281_2)⟩ (fun hHeld => ?_); refine with_tabW impl_SplitNode.tab5 impl_SplitNode.bits5 (fun HT_ HW_ => ?_)
      generalize w19.drew = w20 at HO278 BK274 HB hx280_0 hx280_1 hx280_2 hx281_0 hx281_1 hx281_2 hHeld ⊢
      refine pure_ (i := 1) (N := some 23) (v := ?_) (a' := ?_) (bs 2 14) rfl rfl (any_of HT_.out (by kernel_rfl)) (fun _ _ _ h => h) (Or.inl ⟨by rfl, ?_⟩) ?_ ?_
      rotate_left
      ·intro w'
       go_simp
       with_reducible rfl
      rotate_left
      ·simp only [pA, pS, pZ, pK, i64_w, i32_w]
       rfl
      refine pure_ (i := 2) (N := some 24) (v := ?_) (a' := ?_) (bs 6 14) rfl rfl (any_of HT_.out (by kernel_rfl)) (fun _ _ _ h => h) (Or.inl ⟨by rfl, ?_⟩) ?_ ?_
      rotate_left
      ·intro w'
       go_simp
       with_reducible rfl
      rotate_left
      ·simp only [pA, pS, pZ, pK, i64_w, i32_w]
       rfl
      refine pure_ (i := 3) (N := some 25) (v := ?_) (a' := ?_) (bs 14 14) rfl rfl (any_of HT_.out (by kernel_rfl)) (fun _ _ _ h => h) (Or.inl ⟨by rfl, ?_⟩) ?_ ?_
      rotate_left
      ·intro w'
       go_simp
       with_reducible rfl
      rotate_left
      ·simp only [pA, pS, pZ, pK, i64_w, i32_w]
       rfl
      refine pure_ (i := 4) (N := some 26) (v := ?_) (a' := ?_) (bs 30 14) rfl rfl (any_of HT_.out (by kernel_rfl)) (fun _ _ _ h => h) (Or.inl ⟨by rfl, ?_⟩) ?_ ?_
      rotate_left
      ·intro w'
       go_simp
       with_reducible rfl
      rotate_left
      ·simp only [pA, pS, pZ, pK, i64_w, i32_w]
       rfl
      refine pure_ (i := 6) (N := some 28) (v := ?_) (a' := ?_) (bs 94 14) rfl rfl (any_of HT_.out (by kernel_rfl)) (fun _ _ _ h => h) (Or.inl ⟨by rfl, ?_⟩) ?_ ?_
      rotate_left
      ·intro w'
       go_simp
       with_reducible rfl
      rotate_left
      ·simp only [pA, pS, pZ, pK, i64_w, i32_w]
       rfl
      refine pure_ (i := 7) (N := some 29) (v := ?_) (a' := ?_) (bs 222 14) rfl rfl (any_of HT_.out (by kernel_rfl)) (fun _ _ _ h => h) (Or.inl ⟨by rfl, ?_⟩) ?_ ?_
      rotate_left
      ·intro w'
       go_simp
       with_reducible rfl
      rotate_left
      ·simp only [pA, pS, pZ, pK, i64_w, i32_w]
       rfl
      refine pure_ (i := 8) (N := some 30) (v := ?_) (a' := ?_) (bs 478 14) rfl rfl (any_of HT_.out (by kernel_rfl)) (fun _ _ _ h => h) (Or.inl ⟨by rfl, ?_⟩) ?_ ?_
      rotate_left
      ·intro w'
       go_simp
       with_reducible rfl
      rotate_left
      ·simp only [pA, pS, pZ, pK, i64_w, i32_w]
       rfl
      refine pure_ (i := 9) (N := some 31) (v := ?_) (a' := ?_) (bs 990 14) rfl rfl (any_of HT_.out (by kernel_rfl)) (fun _ _ _ h => h) (Or.inl ⟨by rfl, ?_⟩) ?_ ?_
      rotate_left
      ·intro w'
       go_simp
       with_reducible rfl
      rotate_left
      ·simp only [pA, pS, pZ, pK, i64_w, i32_w]
       rfl
      refine take_ (i := 0) (N := some 22) (v := ?_) (a' := ?_) (bs 991 14) rfl rfl (take_ofW HT_.out HW_.out (by kernel_rfl)) (fun _ _ _ h => h) (Or.inl ⟨by rfl, ?_⟩) hHeld ?_ ?_
      rotate_left
      ·rintro w' ⟨s0, s1, s2, s3, s4, s5, s6⟩
       go_simp
       with_reducible rfl
      rotate_left
      ·simp only [pA, pS, pZ, pK, i64_w, i32_w]
       rfl
      refine take_ (i := 5) (N := some 27) (v := ?_) (a' := ?_) (bs 1023 14) rfl rfl (take_ofW HT_.out HW_.out (by kernel_rfl)) (fun _ _ _ h => h) (Or.inl ⟨by rfl, ?_⟩) hHeld ?_ ?_
      rotate_left
      ·rintro w' ⟨s0, s1, s2, s3, s4, s5, s6⟩
       go_simp
       with_reducible rfl
      rotate_left
      ·simp only [pA, pS, pZ, pK, i64_w, i32_w]
       rfl
      refine take_ (i := 10) (N := some 32) (v := ?_) (a' := ?_) (bs 2047 14) rfl rfl (take_ofW HT_.out HW_.out (by kernel_rfl)) (fun _ _ _ h => h) (Or.inl ⟨by rfl, ?_⟩) hHeld ?_ ?_
      rotate_left
      ·rintro w' ⟨s0, s1, s2, s3, s4, s5, s6⟩
       go_simp
       with_reducible rfl
      rotate_left
      ·simp only [pA, pS, pZ, pK, i64_w, i32_w]
       rfl
      refine pure_ (i := 11) (N := some 33) (v := ?_) (a' := ?_) (bs 4095 14) rfl rfl (any_of HT_.out (by kernel_rfl)) (fun _ _ _ h => h) (Or.inl ⟨by rfl, ?_⟩) ?_ ?_
      rotate_left
      ·intro w'
       go_simp
       with_reducible rfl
      rotate_left
      ·simp only [pA, pS, pZ, pK, i64_w, i32_w]
       rfl
      refine one_ (i := 12) (N := some 8) (bs 8191 14) rfl rfl (one_of HT_.out (by kernel_rfl)) (by decide) (fun K hK => ?_)
      refine box_step ?hg (N := 8) ?hd (cs := #[.int .i64 0, .int .i64 0, .int .i64 0]) (t := 77) ?hr ?_; (case hd => rfl); (case hg => rfl); (case hr => first | (go_simp; done) | (go_simp; rfl))
      intro gb282 hg w21 hbox hb
      have n0_ := AM_ (Kd.R_below (Kd.R_elderB (by exact RL HO278.out rfl) gb282 (Nat.le_of_eq hg.symm)) hb)
      have n1_ := AM_ (blk_below (g := gb274) (o := .cells #[.int .i64 a1] 3 (0, 0)) (by (with_reducible repeat (first | refine blk_drewN ?_ _ | refine blk_drew ?_ | refine blk_alloc ?_ _)); exact BK274.out) hb)
      have n2_ := AM_ (below_step (by repeat (first | (with_reducible first | exact HB.out | apply below_alloc | apply pw_below_drewN | apply below_drew1 | refine below_set ?_ GE274.out) | exact HB.out)) hb)
      have n3_ := AM_ (hbox)
      have n4_ := AM_ ((by rw [hg]; exact (below_size (by repeat (first | (with_reducible first | exact HB.out | apply below_alloc | apply pw_below_drewN | apply below_drew1 | refine below_set ?_ GE274.out) | exact HB.out))) : w.heap.size ≤ gb282))
      have n5_ := AM_ ((by rw [hg]; exact (below_size (by repeat (first | (with_reducible first | exact HB.out | apply below_alloc | apply pw_below_drewN | apply below_drew1 | refine below_set ?_ GE274.out) | exact HB.out))) : w.heap.size ≤ gb282))
      have n6_ := AM_ ((by rw [hg]; exact Nat.ne_of_lt (blk_lt (g := gb274) (o := .cells #[.int .i64 a1] 3 (0, 0)) (by (with_reducible repeat (first | refine blk_drewN ?_ _ | refine blk_drew ?_ | refine blk_alloc ?_ _)); exact BK274.out)) : gb274 ≠ gb282))
      have n7_ := AM_ ((by rw [hg]; exact Nat.ne_of_gt (blk_lt (g := gb274) (o := .cells #[.int .i64 a1] 3 (0, 0)) (by (with_reducible repeat (first | refine blk_drewN ?_ _ | refine blk_drew ?_ | refine blk_alloc ?_ _)); exact BK274.out)) : gb282 ≠ gb274))
      clear HO278
      clear BK274
      clear HB
      have HO278 := n0_
      have BK274 := n1_
      have HB := n2_
      have BK282 := n3_
      have GW282 := n4_
      have GE282 := n5_
      have NB274_282 := n6_
      have NB282_274 := n7_
      clear n0_ n1_ n2_ n3_ n4_ n5_ n6_ n7_
      clear hb hbox hg
      refine hK.out _ _ ⟨(blk_cell BK274.out 0).trans rfl, (BD HB.out hw280_0), (BD HB.out hw280_1), (BD HB.out hw280_2), (BD HB.out hw281_0), (BD HB.out hw281_1), (BD HB.out hw281_2)⟩ (fun hHeld => ?_)
      clear hK K
      refine norm_ (a' := ?_) ?_ ?_
      rotate_left
      ·show Act.put _ (some 8) _ = _
       simp only [pA, pS, pZ, pK, i64_w, i32_w]
       rfl
      refine one_ (i := 13) (N := none) (bs 16383 14) rfl rfl (one_of HT_.out (by kernel_rfl)) (by decide) (fun K hK => ?_)
      have hs22 : w21.cell? ⟨gb282, 0, none⟩ = some (.int .i64 0) := (blk_cell BK282.out 0).trans rfl
      have hfs22 := blk_frozen BK282.out 0
      have hns22_0 := NB274_282.out
      have hms22_0 := NB282_274.out
      have hs23 : w21.cell? ⟨gb282, 1, none⟩ = some (.int .i64 0) := (blk_cell BK282.out 1).trans rfl
      have hfs23 := blk_frozen BK282.out 1
      have hns23_0 := NB274_282.out
      have hms23_0 := NB282_274.out
      have hs24 : w21.cell? ⟨gb282, 2, none⟩ = some (.int .i64 0) := (blk_cell BK282.out 2).trans rfl
      have hfs24 := blk_frozen BK282.out 2
      have hns24_0 := NB274_282.out
      have hms24_0 := NB282_274.out
      refine skip_ (w1 := ?_) (by rfl) rfl ?_ ?_
      rotate_left
      ·go_simp
       rfl
      refine hK.out _ _ ⟨((cell_far (p := ⟨gb282, _, none⟩) NB274_282.out _).trans (((cell_far (p := ⟨gb282, _, none⟩) NB274_282.out _).trans (((cell_far (p := ⟨gb282, _, none⟩) NB274_282.out _).trans (hHeld.1)))))), ((cell_far (p := ⟨gb282, _, none⟩) (by first | exact Nat.ne_of_lt (Nat.lt_of_lt_of_le (by have := World.block_lt_of_cell? _ _ hw280_0; first | rwa [add_block] at this | exact this) GW282.out) | (rw [add_block]; exact Nat.ne_of_lt (Nat.lt_of_lt_of_le (by have := World.block_lt_of_cell? _ _ hw280_0; first | rwa [add_block] at this | exact this) GW282.out)) | (show (Addr.add _ _).block ≠ _; rw [add_block]; exact Nat.ne_of_lt (Nat.lt_of_lt_of_le (by have := World.block_lt_of_cell? _ _ hw280_0; first | rwa [add_block] at this | exact this) GW282.out)) | (dsimp only; exact Nat.ne_of_lt (Nat.lt_of_lt_of_le (by have := World.block_lt_of_cell? _ _ hw280_0; first | rwa [add_block] at this | exact this) GW282.out))) _).trans (((cell_far (p := ⟨gb282, _, none⟩) (by first | exact Nat.ne_of_lt (Nat.lt_of_lt_of_le (by have := World.block_lt_of_cell? _ _ hw280_0; first | rwa [add_block] at this | exact this) GW282.out) | (rw [add_block]; exact Nat.ne_of_lt (Nat.lt_of_lt_of_le (by have := World.block_lt_of_cell? _ _ hw280_0; first | rwa [add_block] at this | exact this) GW282.out)) | (show (Addr.add _ _).block ≠ _; rw [add_block]; exact Nat.ne_of_lt (Nat.lt_of_lt_of_le (by have := World.block_lt_of_cell? _ _ hw280_0; first | rwa [add_block] at this | exact this) GW282.out)) | (dsimp only; exact Nat.ne_of_lt (Nat.lt_of_lt_of_le (by have := World.block_lt_of_cell? _ _ hw280_0; first | rwa [add_block] at this | exact this) GW282.out))) _).trans (((cell_far (p := ⟨gb282, _, none⟩) (by first | exact Nat.ne_of_lt (Nat.lt_of_lt_of_le (by have := World.block_lt_of_cell? _ _ hw280_0; first | rwa [add_block] at this | exact this) GW282.out) | (rw [add_block]; exact Nat.ne_of_lt (Nat.lt_of_lt_of_le (by have := World.block_lt_of_cell? _ _ hw280_0; first | rwa [add_block] at this | exact this) GW282.out)) | (show (Addr.add _ _).block ≠ _; rw [add_block]; exact Nat.ne_of_lt (Nat.lt_of_lt_of_le (by have := World.block_lt_of_cell? _ _ hw280_0; first | rwa [add_block] at this | exact this) GW282.out)) | (dsimp only; exact Nat.ne_of_lt (Nat.lt_of_lt_of_le (by have := World.block_lt_of_cell? _ _ hw280_0; first | rwa [add_block] at this | exact this) GW282.out))) _).trans (hHeld.2.1)))))), ((cell_far (p := ⟨gb282, _, none⟩) (by first | exact Nat.ne_of_lt (Nat.lt_of_lt_of_le (by have := World.block_lt_of_cell? _ _ hw280_1; first | rwa [add_block] at this | exact this) GW282.out) | (rw [add_block]; exact Nat.ne_of_lt (Nat.lt_of_lt_of_le (by have := World.block_lt_of_cell? _ _ hw280_1; first | rwa [add_block] at this | exact this) GW282.out)) | (show (Addr.add _ _).block ≠ _; rw [add_block]; exact Nat.ne_of_lt (Nat.lt_of_lt_of_le (by have := World.block_lt_of_cell? _ _ hw280_1; first | rwa [add_block] at this | exact this) GW282.out)) | (dsimp only; exact Nat.ne_of_lt (Nat.lt_of_lt_of_le (by have := World.block_lt_of_cell? _ _ hw280_1; first | rwa [add_block] at this | exact this) GW282.out))) _).trans (((cell_far (p := ⟨gb282, _, none⟩) (by first | exact Nat.ne_of_lt (Nat.lt_of_lt_of_le (by have := World.block_lt_of_cell? _ _ hw280_1; first | rwa [add_block] at this | exact this) GW282.out) | (rw [add_block]; exact Nat.ne_of_lt (Nat.lt_of_lt_of_le (by have := World.block_lt_of_cell? _ _ hw280_1; first | rwa [add_block] at this | exact this) GW282.out)) | (show (Addr.add _ _).block ≠ _; rw [add_block]; exact Nat.ne_of_lt (Nat.lt_of_lt_of_le (by have := World.block_lt_of_cell? _ _ hw280_1; first | rwa [add_block] at this | exact this) GW282.out)) | (dsimp only; exact Nat.ne_of_lt (Nat.lt_of_lt_of_le (by have := World.block_lt_of_cell? _ _ hw280_1; first | rwa [add_block] at this | exact this) GW282.out))) _).trans (((cell_far (p := ⟨gb282, _, none⟩) (by first | exact Nat.ne_of_lt (Nat.lt_of_lt_of_le (by have := World.block_lt_of_cell? _ _ hw280_1; first | rwa [add_block] at this | exact this) GW282.out) | (rw [add_block]; exact Nat.ne_of_lt (Nat.lt_of_lt_of_le (by have := World.block_lt_of_cell? _ _ hw280_1; first | rwa [add_block] at this | exact this) GW282.out)) | (show (Addr.add _ _).block ≠ _; rw [add_block]; exact Nat.ne_of_lt (Nat.lt_of_lt_of_le (by have := World.block_lt_of_cell? _ _ hw280_1; first | rwa [add_block] at this | exact this) GW282.out)) | (dsimp only; exact Nat.ne_of_lt (Nat.lt_of_lt_of_le (by have := World.block_lt_of_cell? _ _ hw280_1; first | rwa [add_block] at this | exact this) GW282.out))) _).trans (hHeld.2.2.1)))))), ((cell_far (p := ⟨gb282, _, none⟩) (by first | exact Nat.ne_of_lt (Nat.lt_of_lt_of_le (by have := World.block_lt_of_cell? _ _ hw280_2; first | rwa [add_block] at this | exact this) GW282.out) | (rw [add_block]; exact Nat.ne_of_lt (Nat.lt_of_lt_of_le (by have := World.block_lt_of_cell? _ _ hw280_2; first | rwa [add_block] at this | exact this) GW282.out)) | (show (Addr.add _ _).block ≠ _; rw [add_block]; exact Nat.ne_of_lt (Nat.lt_of_lt_of_le (by have := World.block_lt_of_cell? _ _ hw280_2; first | rwa [add_block] at this | exact this) GW282.out)) | (dsimp only; exact Nat.ne_of_lt (Nat.lt_of_lt_of_le (by have := World.block_lt_of_cell? _ _ hw280_2; first | rwa [add_block] at this | exact this) GW282.out))) _).trans (((cell_far (p := ⟨gb282, _, none⟩) (by first | exact Nat.ne_of_lt (Nat.lt_of_lt_of_le (by have := World.block_lt_of_cell? _ _ hw280_2; first | rwa [add_block] at this | exact this) GW282.out) | (rw [add_block]; exact Nat.ne_of_lt (Nat.lt_of_lt_of_le (by have := World.block_lt_of_cell? _ _ hw280_2; first | rwa [add_block] at this | exact this) GW282.out)) | (show (Addr.add _ _).block ≠ _; rw [add_block]; exact Nat.ne_of_lt (Nat.lt_of_lt_of_le (by have := World.block_lt_of_cell? _ _ hw280_2; first | rwa [add_block] at this | exact this) GW282.out)) | (dsimp only; exact Nat.ne_of_lt (Nat.lt_of_lt_of_le (by have := World.block_lt_of_cell? _ _ hw280_2; first | rwa [add_block] at this | exact this) GW282.out))) _).trans (((cell_far (p := ⟨gb282, _, none⟩) (by first | exact Nat.ne_of_lt (Nat.lt_of_lt_of_le (by have := World.block_lt_of_cell? _ _ hw280_2; first | rwa [add_block] at this | exact this) GW282.out) | (rw [add_block]; exact Nat.ne_of_lt (Nat.lt_of_lt_of_le (by have := World.block_lt_of_cell? _ _ hw280_2; first | rwa [add_block] at this | exact this) GW282.out)) | (show (Addr.add _ _).block ≠ _; rw [add_block]; exact Nat.ne_of_lt (Nat.lt_of_lt_of_le (by have := World.block_lt_of_cell? _ _ hw280_2; first | rwa [add_block] at this | exact this) GW282.out)) | (dsimp only; exact Nat.ne_of_lt (Nat.lt_of_lt_of_le (by have := World.block_lt_of_cell? _ _ hw280_2; first | rwa [add_block] at this | exact this) GW282.out))) _).trans (hHeld.2.2.2.1)))))), ((cell_far (p := ⟨gb282, _, none⟩) (by first | exact Nat.ne_of_lt (Nat.lt_of_lt_of_le (by have := World.block_lt_of_cell? _ _ hw281_0; first | rwa [add_block] at this | exact this) GW282.out) | (rw [add_block]; exact Nat.ne_of_lt (Nat.lt_of_lt_of_le (by have := World.block_lt_of_cell? _ _ hw281_0; first | rwa [add_block] at this | exact this) GW282.out)) | (show (Addr.add _ _).block ≠ _; rw [add_block]; exact Nat.ne_of_lt (Nat.lt_of_lt_of_le (by have := World.block_lt_of_cell? _ _ hw281_0; first | rwa [add_block] at this | exact this) GW282.out)) | (dsimp only; exact Nat.ne_of_lt (Nat.lt_of_lt_of_le (by have := World.block_lt_of_cell? _ _ hw281_0; first | rwa [add_block] at this | exact this) GW282.out))) _).trans (((cell_far (p := ⟨gb282, _, none⟩) (by first | exact Nat.ne_of_lt (Nat.lt_of_lt_of_le (by have := World.block_lt_of_cell? _ _ hw281_0; first | rwa [add_block] at this | exact this) GW282.out) | (rw [add_block]; exact Nat.ne_of_lt (Nat.lt_of_lt_of_le (by have := World.block_lt_of_cell? _ _ hw281_0; first | rwa [add_block] at this | exact this) GW282.out)) | (show (Addr.add _ _).block ≠ _; rw [add_block]; exact Nat.ne_of_lt (Nat.lt_of_lt_of_le (by have := World.block_lt_of_cell? _ _ hw281_0; first | rwa [add_block] at this | exact this) GW282.out)) | (dsimp only; exact Nat.ne_of_lt (Nat.lt_of_lt_of_le (by have := World.block_lt_of_cell? _ _ hw281_0; first | rwa [add_block] at this | exact this) GW282.out))) _).trans (((cell_far (p := ⟨gb282, _, none⟩) (by first | exact Nat.ne_of_lt (Nat.lt_of_lt_of_le (by have := World.block_lt_of_cell? _ _ hw281_0; first | rwa [add_block] at this | exact this) GW282.out) | (rw [add_block]; exact Nat.ne_of_lt (Nat.lt_of_lt_of_le (by have := World.block_lt_of_cell? _ _ hw281_0; first | rwa [add_block] at this | exact this) GW282.out)) | (show (Addr.add _ _).block ≠ _; rw [add_block]; exact Nat.ne_of_lt (Nat.lt_of_lt_of_le (by have := World.block_lt_of_cell? _ _ hw281_0; first | rwa [add_block] at this | exact this) GW282.out)) | (dsimp only; exact Nat.ne_of_lt (Nat.lt_of_lt_of_le (by have := World.block_lt_of_cell? _ _ hw281_0; first | rwa [add_block] at this | exact this) GW282.out))) _).trans (hHeld.2.2.2.2.1)))))), ((cell_far (p := ⟨gb282, _, none⟩) (by first | exact Nat.ne_of_lt (Nat.lt_of_lt_of_le (by have := World.block_lt_of_cell? _ _ hw281_1; first | rwa [add_block] at this | exact this) GW282.out) | (rw [add_block]; exact Nat.ne_of_lt (Nat.lt_of_lt_of_le (by have := World.block_lt_of_cell? _ _ hw281_1; first | rwa [add_block] at this | exact this) GW282.out)) | (show (Addr.add _ _).block ≠ _; rw [add_block]; exact Nat.ne_of_lt (Nat.lt_of_lt_of_le (by have := World.block_lt_of_cell? _ _ hw281_1; first | rwa [add_block] at this | exact this) GW282.out)) | (dsimp only; exact Nat.ne_of_lt (Nat.lt_of_lt_of_le (by have := World.block_lt_of_cell? _ _ hw281_1; first | rwa [add_block] at this | exact this) GW282.out))) _).trans (((cell_far (p := ⟨gb282, _, none⟩) (by first | exact Nat.ne_of_lt (Nat.lt_of_lt_of_le (by have := World.block_lt_of_cell? _ _ hw281_1; first | rwa [add_block] at this | exact this) GW282.out) | (rw [add_block]; exact Nat.ne_of_lt (Nat.lt_of_lt_of_le (by have := World.block_lt_of_cell? _ _ hw281_1; first | rwa [add_block] at this | exact this) GW282.out)) | (show (Addr.add _ _).block ≠ _; rw [add_block]; exact Nat.ne_of_lt (Nat.lt_of_lt_of_le (by have := World.block_lt_of_cell? _ _ hw281_1; first | rwa [add_block] at this | exact this) GW282.out)) | (dsimp only; exact Nat.ne_of_lt (Nat.lt_of_lt_of_le (by have := World.block_lt_of_cell? _ _ hw281_1; first | rwa [add_block] at this | exact this) GW282.out))) _).trans (((cell_far (p := ⟨gb282, _, none⟩) (by first | exact Nat.ne_of_lt (Nat.lt_of_lt_of_le (by have := World.block_lt_of_cell? _ _ hw281_1; first | rwa [add_block] at this | exact this) GW282.out) | (rw [add_block]; exact Nat.ne_of_lt (Nat.lt_of_lt_of_le (by have := World.block_lt_of_cell? _ _ hw281_1; first | rwa [add_block] at this | exact this) GW282.out)) | (show (Addr.add _ _).block ≠ _; rw [add_block]; exact Nat.ne_of_lt (Nat.lt_of_lt_of_le (by have := World.block_lt_of_cell? _ _ hw281_1; first | rwa [add_block] at this | exact this) GW282.out)) | (dsimp only; exact Nat.ne_of_lt (Nat.lt_of_lt_of_le (by have := World.block_lt_of_cell? _ _ hw281_1; first | rwa [add_block] at this | exact this) GW282.out))) _).trans (hHeld.2.2.2.2.2.1)))))), ((cell_far (p := ⟨gb282, _, none⟩) (by first | exact Nat.ne_of_lt (Nat.lt_of_lt_of_le (by have := World.block_lt_of_cell? _ _ hw281_2; first | rwa [add_block] at this | exact this) GW282.out) | (rw [add_block]; exact Nat.ne_of_lt (Nat.lt_of_lt_of_le (by have := World.block_lt_of_cell? _ _ hw281_2; first | rwa [add_block] at this | exact this) GW282.out)) | (show (Addr.add _ _).block ≠ _; rw [add_block]; exact Nat.ne_of_lt (Nat.lt_of_lt_of_le (by have := World.block_lt_of_cell? _ _ hw281_2; first | rwa [add_block] at this | exact this) GW282.out)) | (dsimp only; exact Nat.ne_of_lt (Nat.lt_of_lt_of_le (by have := World.block_lt_of_cell? _ _ hw281_2; first | rwa [add_block] at this | exact this) GW282.out))) _).trans (((cell_far (p := ⟨gb282, _, none⟩) (by first | exact Nat.ne_of_lt (Nat.lt_of_lt_of_le (by have := World.block_lt_of_cell? _ _ hw281_2; first | rwa [add_block] at this | exact this) GW282.out) | (rw [add_block]; exact Nat.ne_of_lt (Nat.lt_of_lt_of_le (by have := World.block_lt_of_cell? _ _ hw281_2; first | rwa [add_block] at this | exact this) GW282.out)) | (show (Addr.add _ _).block ≠ _; rw [add_block]; exact Nat.ne_of_lt (Nat.lt_of_lt_of_le (by have := World.block_lt_of_cell? _ _ hw281_2; first | rwa [add_block] at this | exact this) GW282.out)) | (dsimp only; exact Nat.ne_of_lt (Nat.lt_of_lt_of_le (by have := World.block_lt_of_cell? _ _ hw281_2; first | rwa [add_block] at this | exact this) GW282.out))) _).trans (((cell_far (p := ⟨gb282, _, none⟩) (by first | exact Nat.ne_of_lt (Nat.lt_of_lt_of_le (by have := World.block_lt_of_cell? _ _ hw281_2; first | rwa [add_block] at this | exact this) GW282.out) | (rw [add_block]; exact Nat.ne_of_lt (Nat.lt_of_lt_of_le (by have := World.block_lt_of_cell? _ _ hw281_2; first | rwa [add_block] at this | exact this) GW282.out)) | (show (Addr.add _ _).block ≠ _; rw [add_block]; exact Nat.ne_of_lt (Nat.lt_of_lt_of_le (by have := World.block_lt_of_cell? _ _ hw281_2; first | rwa [add_block] at this | exact this) GW282.out)) | (dsimp only; exact Nat.ne_of_lt (Nat.lt_of_lt_of_le (by have := World.block_lt_of_cell? _ _ hw281_2; first | rwa [add_block] at this | exact this) GW282.out))) _).trans (hHeld.2.2.2.2.2.2))))))⟩ (fun hHeld => ?_)
      clear hK K
      refine done_ (done_of HT_.out (by kernel_rfl)) ?_
      have n0_ : Aside0 (Kd.R k77 77 (((w21.setCell ⟨gb282, 0, none⟩ (.int .i64 a1)).setCell ⟨gb282, 1, none⟩ (.int .i64 ((rd_T77 l0 t275).f1))).setCell ⟨gb282, 2, none⟩ (.int .i64 ((rd_T77 l0 t275).f2))) w.heap.size (fun k_ => k_ ≠ gb282) v277 t276) := ⟨by (with_reducible repeat (first | apply Kd.R_alloc | apply Kd.R_drewN | apply Kd.R_drew)); exact Kd.R_mono (Kd.R_far (p := ⟨gb282, 2, none⟩) (Kd.R_far (p := ⟨gb282, 1, none⟩) (Kd.R_far (p := ⟨gb282, 0, none⟩) (Kd.R_mono HO278.out (fun k_ hk => (⟨hk, hk.2⟩ : _ ∧ k_ ≠ gb282))) (fun _ hk => hk.2) (.int .i64 a1)) (fun _ hk => hk.2) (.int .i64 ((rd_T77 l0 t275).f1))) (fun _ hk => hk.2) (.int .i64 ((rd_T77 l0 t275).f2))) (fun _ hk => hk.1.2)⟩
      have n1_ : Aside0 ((((w21.setCell ⟨gb282, 0, none⟩ (.int .i64 a1)).setCell ⟨gb282, 1, none⟩ (.int .i64 ((rd_T77 l0 t275).f1))).setCell ⟨gb282, 2, none⟩ (.int .i64 ((rd_T77 l0 t275).f2))).heap[gb274]? = some (.cells #[.int .i64 a1] 3 (0, 0))) := ⟨by (with_reducible repeat (first | refine blk_drewN ?_ _ | refine blk_drew ?_ | refine blk_alloc ?_ _)); refine blk_far ?_ NB274_282.out _; (with_reducible repeat (first | refine blk_drewN ?_ _ | refine blk_drew ?_ | refine blk_alloc ?_ _)); refine blk_far ?_ NB274_282.out _; (with_reducible repeat (first | refine blk_drewN ?_ _ | refine blk_drew ?_ | refine blk_alloc ?_ _)); refine blk_far ?_ NB274_282.out _; (with_reducible repeat (first | refine blk_drewN ?_ _ | refine blk_drew ?_ | refine blk_alloc ?_ _)); exact BK274.out⟩
      have n2_ : Aside0 ((((w21.setCell ⟨gb282, 0, none⟩ (.int .i64 a1)).setCell ⟨gb282, 1, none⟩ (.int .i64 ((rd_T77 l0 t275).f1))).setCell ⟨gb282, 2, none⟩ (.int .i64 ((rd_T77 l0 t275).f2))).heap[gb282]? = some (.cells #[.int .i64 a1, .int .i64 ((rd_T77 l0 t275).f1), .int .i64 ((rd_T77 l0 t275).f2)] 77 (0, 0))) := ⟨by (with_reducible repeat (first | refine blk_drewN ?_ _ | refine blk_drew ?_ | refine blk_alloc ?_ _)); refine blk_put (cs := #[.int .i64 a1, .int .i64 ((rd_T77 l0 t275).f1), .int .i64 0]) ?_ 2 _ rfl; (with_reducible repeat (first | refine blk_drewN ?_ _ | refine blk_drew ?_ | refine blk_alloc ?_ _)); refine blk_put (cs := #[.int .i64 a1, .int .i64 0, .int .i64 0]) ?_ 1 _ rfl; (with_reducible repeat (first | refine blk_drewN ?_ _ | refine blk_drew ?_ | refine blk_alloc ?_ _)); refine blk_put (cs := #[.int .i64 0, .int .i64 0, .int .i64 0]) ?_ 0 _ rfl; (with_reducible repeat (first | refine blk_drewN ?_ _ | refine blk_drew ?_ | refine blk_alloc ?_ _)); exact BK282.out⟩
      have n3_ : Aside0 (Below w.heap.size w (((w21.setCell ⟨gb282, 0, none⟩ (.int .i64 a1)).setCell ⟨gb282, 1, none⟩ (.int .i64 ((rd_T77 l0 t275).f1))).setCell ⟨gb282, 2, none⟩ (.int .i64 ((rd_T77 l0 t275).f2)))) := ⟨by repeat (first | (with_reducible first | exact HB.out | apply below_alloc | apply pw_below_drewN | apply below_drew1 | refine below_set ?_ GE274.out | refine below_set ?_ GE282.out) | exact HB.out)⟩
      (try clear HO278)
      (try clear BK274)
      (try clear BK282)
      (try clear HB)
      generalize (((w21.setCell ⟨gb282, 0, none⟩ (.int .i64 a1)).setCell ⟨gb282, 1, none⟩ (.int .i64 ((rd_T77 l0 t275).f1))).setCell ⟨gb282, 2, none⟩ (.int .i64 ((rd_T77 l0 t275).f2))) = w25 at n0_ n1_ n2_ n3_ ⊢
      have HO278 := n0_
      have BK274 := n1_
      have BK282 := n2_
      have HB := n3_
      clear n0_ n1_ n2_ n3_
      have hnb26 := NB274_282.out
      have hnc26 := NB282_274.out
      have hcz27_0 : w25.cell? ⟨gb274, 0, none⟩ = some (.int .i64 a1) := (blk_cell BK274.out 0).trans rfl
      have hfz27_0 := blk_frozen BK274.out 0
      have p14 : 0 ≤ (t275 : Int) := of_decide_eq_true (by first | (with_reducible assumption) | assumption)
      have q14 : (t275 : Int) < ((t276.length : Int) : Int) := of_decide_eq_true (by first | (with_reducible assumption) | assumption)
      obtain ⟨go14, co14, eo14, gb14, gl14, cl14, HG14⟩ := Kd.R_form HO278.out (by omega)
      (first | cases eo14 | (injection eo14 with ea_ en_ ec_; (first | subst ea_ | (injection ea_ with ea_; subst ea_)); subst ec_; clear en_))
      have GB14 := AM_ gb14
      have GG14 := AM_ HG14
      clear gb14 gl14 HG14
      obtain ⟨ce14, hcl14, hM14, hcc14, hfr14⟩ := Kd.R_elem HO278.out z77 (t275 : Int) p14 q14
      obtain rfl := k77_openM hM14
      have hx14_0 : w25.cell? ⟨go14, (t275 : Int).toNat * 3, none⟩ = some (.int .i64 ((rd_T77 t276 t275).f0)) := hcc14 0 _ rfl
      have hx14_1 : w25.cell? ⟨go14, (t275 : Int).toNat * 3 + 1, none⟩ = some (.int .i64 ((rd_T77 t276 t275).f1)) := hcc14 1 _ rfl
      have hx14_2 : w25.cell? ⟨go14, (t275 : Int).toNat * 3 + 2, none⟩ = some (.int .i64 ((rd_T77 t276 t275).f2)) := hcc14 2 _ rfl
      have hf14_0 : w25.frozen? ⟨go14, (t275 : Int).toNat * 3, none⟩ = false := hfr14 0
      have hf14_1 : w25.frozen? ⟨go14, (t275 : Int).toNat * 3 + 1, none⟩ = false := hfr14 1
      have hf14_2 : w25.frozen? ⟨go14, (t275 : Int).toNat * 3 + 2, none⟩ = false := hfr14 2
      clear hcl14 hcc14 hfr14; (try clear hM14)
      replace p14 := eq_true p14
      replace q14 := eq_true q14
      have HX28 := AM_ (show Kd.R k77 77 w25 w.heap.size (fun k_ => k_ ≠ gb282) (.slice (some ⟨go14, 0, none⟩) t276.length co14) t276 from (by exact RL HO278.out rfl))
      obtain ⟨ce28, hcl28, hM28, hcc28, hfr28⟩ := Kd.R_elem HX28.out z77 (t275 : Int) (of_decide_eq_true (by first | (with_reducible assumption) | assumption)) (by have h_ : (t275 : Int) < ((t276.length : Int) : Int) := of_decide_eq_true (by first | (with_reducible assumption) | assumption); first | exact h_ | (have e_ := (Kd.R_reads' HO278.out).1; omega) | simpa using h_)
      obtain rfl := k77_openM hM28
      have HP28 := Kd.R_seg HX28.out (t275 : Int) (of_decide_eq_true (by first | (with_reducible assumption) | assumption)) (by have h_ : (t275 : Int) < ((t276.length : Int) : Int) := of_decide_eq_true (by first | (with_reducible assumption) | assumption); first | exact h_ | (have e_ := (Kd.R_reads' HO278.out).1; omega) | simpa using h_) (seg := [.int .i64 (wrap64 (a1 - 1))]) (j := 1) hcl28 hcc28 (show 2 ≤ 3 from by decide) (x' := (⟨(rd_T77 t276 t275).f0, wrap64 (a1 - 1), (rd_T77 t276 t275).f2⟩ : S77)) (k77_mkM _ _ _ (⟨(rd_T77 t276 t275).f0, wrap64 (a1 - 1), (rd_T77 t276 t275).f2⟩ : S77) ) (fun _ hk => hk)
      have hx28_1 := hcc28 1 _ rfl
      (try simp only [show (k77).sz = 3 from rfl, Nat.mul_one, Nat.add_zero] at hx28_1)
      have hf28_1 := hfr28 1
      (try simp only [show (k77).sz = 3 from rfl, Nat.mul_one, Nat.add_zero] at hf28_1)
      clear hcl28 hcc28 hfr28; (try clear hM28)
      try go_wp2_with (first | ((with_reducible refine gate_store (t := 3) (p := 39) rfl ?_); refine store_event (t := 3) (p := 39) (v := ?vo_w29) (w1 := (w25.setCell ⟨go14, (t275 : Int).toNat * 3 + 1, none⟩ (.int .i64 (wrap64 (a1 - 1))))) ?hg ?ho ?hn ?hr ?_; (case ho => rfl); (case hg => rfl); (case hn => rfl); (case hr => first | (go_simp; done) | (go_simp; rfl)); intro w29 hw; have hg : w25.grownBy w29 (some go14) := (by rw [hw]; exact HP28.2); have hp_ : Kd.R k77 77 w29 w.heap.size (fun k_ => k_ ≠ gb282) (.slice (some ⟨go14, 0, none⟩) t276.length co14) y283 := (by rw [hw, Ny283.out]; exact HP28.1); clear HP28; have n0_ := AM_ (blk_grown (g := gb274) (o := .cells #[.int .i64 a1] 3 (0, 0)) (by (with_reducible repeat (first | refine blk_drewN ?_ _ | refine blk_drew ?_ | refine blk_alloc ?_ _)); exact BK274.out) hg (Kd.R_ne HO278.out BK274.out (by decide))); have n1_ := AM_ (hp_); have n2_ := AM_ (blk_grown (g := gb282) (o := .cells #[.int .i64 a1, .int .i64 ((rd_T77 l0 t275).f1), .int .i64 ((rd_T77 l0 t275).f2)] 77 (0, 0)) (by (with_reducible repeat (first | refine blk_drewN ?_ _ | refine blk_drew ?_ | refine blk_alloc ?_ _)); exact BK282.out) hg (Kd.R_away HO278.out (fun _ hk => hk))); have n3_ := AM_ ((by rw [hw]; exact below_set (HB.out) GB14.out : Below w.heap.size w w29)); clear BK274; clear HO278; clear BK282; clear HB; have BK274 := n0_; have HO278 := n1_; have BK282 := n2_; have HB := n3_; clear n0_ n1_ n2_ n3_; clear hg hw hp_; have hcz30_0 : w29.cell? ⟨gb282, 0, none⟩ = some (.int .i64 a1) := (blk_cell BK282.out 0).trans rfl; have hcz30_1 : w29.cell? ⟨gb282, 1, none⟩ = some (.int .i64 ((rd_T77 l0 t275).f1)) := (blk_cell BK282.out 1).trans rfl; have hcz30_2 : w29.cell? ⟨gb282, 2, none⟩ = some (.int .i64 ((rd_T77 l0 t275).f2)) := (blk_cell BK282.out 2).trans rfl; have hfz30_0 := blk_frozen BK282.out 0; have hfz30_1 := blk_frozen BK282.out 1; have hfz30_2 := blk_frozen BK282.out 2) | ((with_reducible refine gate_dst (N := 44) rfl ?_); refine Kd.R_lit k77 _ 77 ?hg (N := 44) ?hd (xs := ([(⟨a1, (rd_T77 l0 t275).f1, (rd_T77 l0 t275).f2⟩ : S77)] : List (S77))) (inner := [.int .i64 a1, .int .i64 ((rd_T77 l0 t275).f1), .int .i64 ((rd_T77 l0 t275).f2)]) (ok := fun _ => True) (okp := fun _ => True) ?hr ?hp (fun _ hk => hk) trivial (Below.refl _ _) (Nat.le_refl _) (by simp) ?_; (case hd => rfl); (case hg => rfl); (case hr => first | (go_simp; done) | (go_simp; rfl)); (case hp => exact (Reps.c3 (show Kd.M k77 _ _ _ (⟨a1, (rd_T77 l0 t275).f1, (rd_T77 l0 t275).f2⟩ : S77) [.int .i64 a1, .int .i64 ((rd_T77 l0 t275).f1), .int .i64 ((rd_T77 l0 t275).f2)] from (k77_mkM _ _ _ (⟨a1, (rd_T77 l0 t275).f1, (rd_T77 l0 t275).f2⟩ : S77) )) (Reps.none _ _))); intro v285 w31 ho32 hb hg_ hnew_; clear hg_ hnew_; (first | rw [← Ny284.out] at ho32 | (simp only [Int.reduceToNat] at ho32; rw [← Ny284.out] at ho32)); have n0_ := AM_ (Kd.R_elder' (by exact RL HO278.out rfl) (Kd.R_base ho32) hb); have n1_ := AM_ (Kd.R_lower (Kd.R_newB (Kd.R_new' ho32 (Kd.R_lt (by exact RL HO278.out rfl))) (g := gb282) (o := .cells #[.int .i64 a1, .int .i64 ((rd_T77 l0 t275).f1), .int .i64 ((rd_T77 l0 t275).f2)] 77 (0, 0)) (by (with_reducible repeat (first | refine blk_drewN ?_ _ | refine blk_drew ?_ | refine blk_alloc ?_ _)); exact BK282.out)) (below_size (by repeat (first | (with_reducible first | exact HB.out | apply below_alloc | apply pw_below_drewN | apply below_drew1 | refine below_set ?_ GE274.out | refine below_set ?_ GE282.out) | exact HB.out)))); have n2_ := AM_ (blk_below (g := gb274) (o := .cells #[.int .i64 a1] 3 (0, 0)) (by (with_reducible repeat (first | refine blk_drewN ?_ _ | refine blk_drew ?_ | refine blk_alloc ?_ _)); exact BK274.out) hb); have n3_ := AM_ (blk_below (g := gb282) (o := .cells #[.int .i64 a1, .int .i64 ((rd_T77 l0 t275).f1), .int .i64 ((rd_T77 l0 t275).f2)] 77 (0, 0)) (by (with_reducible repeat (first | refine blk_drewN ?_ _ | refine blk_drew ?_ | refine blk_alloc ?_ _)); exact BK282.out) hb); have n4_ := AM_ (below_step (by repeat (first | (with_reducible first | exact HB.out | apply below_alloc | apply pw_below_drewN | apply below_drew1 | refine below_set ?_ GE274.out | refine below_set ?_ GE282.out) | exact HB.out)) hb); clear HO278; clear BK274; clear BK282; clear HB; have HO278 := n0_; have HO286 := n1_; have BK274 := n2_; have BK282 := n3_; have HB := n4_; clear n0_ n1_ n2_ n3_ n4_; clear hb ho32; obtain ⟨Ao33, co33, eo33⟩ := Kd.R_slice HO286.out; subst eo33) | ((with_reducible refine gate_callee (f := 158) rfl ?_); refine goesL_ (some 45) rfl rfl Try.func158 (by kernel_rfl) rfl #[.slice (some ⟨go14, 0, none⟩) t276.length co14, .int .i64 (wrap64 (t275 + 1)), .slice Ao33 y284.length co33] rfl (by (try simp only [List.map_toArray, List.map_cons, List.map_nil]); first | done | rfl | (simp only [List.length_drop, List.length_take]; rfl)) ?_; (with_reducible refine (impl_IndexNode_158.calls (fun k_ => some k_ = (.slice (some ⟨go14, 0, none⟩) t276.length co14 : Value).ownBlock) (.slice (some ⟨go14, 0, none⟩) t276.length co14) y283 (wrap64 (t275 + 1)) (fun k_ => some k_ = (.slice Ao33 y284.length co33 : Value).ownBlock) (.slice Ao33 y284.length co33) y284 t287 w _ ?side1 ?side2 ?side3 ?side4 ?side5 A15.out).mono ?_); (case side1 => repeat (first | (with_reducible first | exact HB.out | apply below_alloc | apply pw_below_drewN | apply below_drew1 | refine below_set ?_ GE274.out | refine below_set ?_ GE282.out) | exact HB.out)); (case side2 => exact Kd.R_tight rfl HO278.out); (case side3 => exact fun k_ e_ => (HO278.out.1 k_ e_.symm).2); (case side4 => exact Kd.R_tight rfl HO286.out); (case side5 => exact fun k_ e_ => (HO286.out.1 k_ e_.symm).1.2); rintro e w34 ⟨v288, rfl, ho0, hb, hkp⟩; refine ⟨_, rfl, ?_⟩; have n0_ := AM_ (blk_kept (by (with_reducible repeat (first | refine blk_drewN ?_ _ | refine blk_drew ?_ | refine blk_alloc ?_ _)); exact BK274.out) hkp (fun hs_ => Or.elim hs_ (fun e_ => (fun e_ => (Kd.R_ne HO278.out BK274.out (by decide)) e_) e_) (fun e_ => (fun e_ => (Kd.R_ne HO286.out BK274.out (by decide)) e_) e_))); have n1_ := AM_ (blk_kept (by (with_reducible repeat (first | refine blk_drewN ?_ _ | refine blk_drew ?_ | refine blk_alloc ?_ _)); exact BK282.out) hkp (fun hs_ => Or.elim hs_ (fun e_ => (fun e_ => (Kd.R_away HO278.out (fun _ hk => hk.1)) e_) e_) (fun e_ => (fun e_ => (Kd.R_away HO286.out (fun _ hk => hk.2)) e_) e_))); have n2_ := AM_ (Kd.R_mono (ok' := fun k_ => k_ ≠ gb282) ho0 (fun k_ hk_ => Or.elim hk_ (fun hs_ => Or.elim hs_ (fun hs_ => fun e_ => (Kd.R_away HO278.out (fun _ hk => hk.1)) (by rw [← e_]; exact hs_)) (fun hs_ => fun e_ => (Kd.R_away HO286.out (fun _ hk => hk.2)) (by rw [← e_]; exact hs_))) (fun hn_ => (Kd.freshB (g := gb282) (o := .cells #[.int .i64 a1, .int .i64 ((rd_T77 l0 t275).f1), .int .i64 ((rd_T77 l0 t275).f2)] 77 (0, 0)) (by (with_reducible repeat (first | refine blk_drewN ?_ _ | refine blk_drew ?_ | refine blk_alloc ?_ _)); exact BK282.out) k_ hn_)))); have n3_ := AM_ (hb); clear BK274; clear BK282; clear HB; clear HO278; clear HO286; have BK274 := n0_; have BK282 := n1_; have HO289 := n2_; have HB := n3_; clear n0_ n1_ n2_ n3_; (try clear hb); (try clear hkp); (try clear ho0)))
      go_ret2
      exact ⟨_, by first | rfl | (simp [errW_none, errW_some] <;> rfl) | (simp [*, errW_none, errW_some] <;> rfl), by (with_reducible repeat (first | apply Kd.R_alloc | apply Kd.R_drewN | apply Kd.R_drew)); exact Kd.R_mono HO289.out (fun _ hk => trivial), by repeat (first | (with_reducible first | exact HB.out | apply below_alloc | apply pw_below_drewN | apply below_drew1 | refine below_set ?_ GE274.out | refine below_set ?_ GE282.out) | exact HB.out)⟩
     ·rw [if_neg c13] at H
      exact absurd H (by simp)
    ·rw [if_neg c12] at H
     exact absurd H (by simp)
   ·rw [if_neg c11] at H
    exact absurd H (by simp)
  ·replace c10 := Bool.eq_false_iff.mpr c10
   subst c10
   have H1 : (some (t276, false)) = some (r1, r2) := by rw [if_neg (show ¬ (false = true) by decide)] at H; exact H
   clear H
   have H := H1
   clear H1
   simp only [Option.some.injEq, Prod.mk.injEq] at H
   obtain ⟨rfl, rfl⟩ := H
   go_enter Try.func81, Try.ntmps81
   go_wp2_with (first | ((with_reducible refine gate_dst (N := 3) rfl ?_); refine box_event ?hg (N := 3) ?hd (cs := #[.int .i64 a1]) (t := 3) ?hr ?_; (case hd => rfl); (case hg => rfl); (case hr => first | (go_simp; done) | (go_simp; rfl)); intro gb274 hg w35 hbox hb; have n0_ := AM_ (below_step (by exact BL HB.out rfl rfl rfl rfl) hb); have n1_ := AM_ (hbox); have n2_ := AM_ ((by rw [hg]; exact (below_size (by exact BL HB.out rfl rfl rfl rfl)) : w.heap.size ≤ gb274)); have n3_ := AM_ ((by rw [hg]; exact (below_size (by exact BL HB.out rfl rfl rfl rfl)) : w.heap.size ≤ gb274)); clear HB; have HB := n0_; have BK274 := n1_; have GW274 := n2_; have GE274 := n3_; clear n0_ n1_ n2_ n3_; clear hb hbox hg) | ((with_reducible refine gate_callee (f := 156) rfl ?_); refine goesL_ (some 11) rfl rfl Try.func156 (by kernel_rfl) rfl #[.slice A0 l0.length c0, .func (.func 157) #[] #[.pointer (some ⟨gb274, 0, none⟩)]] rfl (by (try simp only [List.map_toArray, List.map_cons, List.map_nil]); first | done | rfl | (simp only [List.length_drop, List.length_take]; rfl)) ?_; (with_reducible refine (impl_IndexNode_156_b7.calls k _ _ l0 gb274 a1 t275 _ ?side1 ?side2 ?side3 A3.out).mono ?_); (case side1 => exact Kd.C_below (Kd.C_below HR0.out HB.out) (BL (Below.refl _ _) rfl rfl rfl rfl)); (case side2 => exact HC0.out); (case side3 => exact by (with_reducible repeat (first | refine blk_drewN ?_ _ | refine blk_drew ?_ | refine blk_alloc ?_ _)); exact BK274.out); rintro e w36 ⟨rfl, hb⟩; refine ⟨_, rfl, ?_⟩; have n0_ := AM_ (blk_below (g := gb274) (o := .cells #[.int .i64 a1] 3 (0, 0)) (by (with_reducible repeat (first | refine blk_drewN ?_ _ | refine blk_drew ?_ | refine blk_alloc ?_ _)); exact BK274.out) hb); have n1_ := AM_ (below_step (by repeat (first | (with_reducible first | exact HB.out | apply below_alloc | apply pw_below_drewN | apply below_drew1 | refine below_set ?_ GE274.out) | exact HB.out)) hb); clear BK274; clear HB; have BK274 := n0_; have HB := n1_; clear n0_ n1_; (try clear hb); (try clear hb2); (try clear hk); (try clear hi)) | ((with_reducible refine gate_callee (f := 127) rfl ?_); refine goesL_ (some 13) rfl rfl Try.func127 (by kernel_rfl) rfl #[.slice A0 l0.length c0] rfl (by (try simp only [List.map_toArray, List.map_cons, List.map_nil]); first | done | rfl | (simp only [List.length_drop, List.length_take]; rfl)) ?_; (with_reducible refine (impl_IndexNode_127.calls _ _ l0 t276 _ ?side1 ?side2 A4.out).mono ?_); (case side1 => exact Kd.C_below (Kd.C_below HR0.out HB.out) (BL (Below.refl _ _) rfl rfl rfl rfl)); (case side2 => exact HC0.out); rintro e w37 ⟨v277, rfl, ho0, hb⟩; refine ⟨_, rfl, ?_⟩; have n0_ := AM_ (Kd.R_lower ho0 (below_size (by repeat (first | (with_reducible first | exact HB.out | apply below_alloc | apply pw_below_drewN | apply below_drew1 | refine below_set ?_ GE274.out) | exact HB.out)))); have n1_ := AM_ (blk_below (g := gb274) (o := .cells #[.int .i64 a1] 3 (0, 0)) (by (with_reducible repeat (first | refine blk_drewN ?_ _ | refine blk_drew ?_ | refine blk_alloc ?_ _)); exact BK274.out) hb); have n2_ := AM_ (below_step (by repeat (first | (with_reducible first | exact HB.out | apply below_alloc | apply pw_below_drewN | apply below_drew1 | refine below_set ?_ GE274.out) | exact HB.out)) hb); clear BK274; clear HB; have HO278 := n0_; have BK274 := n1_; have HB := n2_; clear n0_ n1_ n2_; (try clear hb); (try clear hb2); (try clear hk); (try clear hi); (try clear ho0)) | (go_at_call 56; (with_reducible refine (impl_IsIndex.calls k _ _ l0 false _ ?side1 ?side2 A9.out).mono ?_); (case side1 => exact Kd.C_below (Kd.C_below HR0.out HB.out) (BL (Below.refl _ _) rfl rfl rfl rfl)); (case side2 => exact HC0.out); rintro e w38 ⟨rfl, hb⟩; have n0_ := AM_ (Kd.R_below (by exact RL HO278.out rfl) hb); have n1_ := AM_ (blk_below (g := gb274) (o := .cells #[.int .i64 a1] 3 (0, 0)) (by (with_reducible repeat (first | refine blk_drewN ?_ _ | refine blk_drew ?_ | refine blk_alloc ?_ _)); exact BK274.out) hb); have n2_ := AM_ (below_step (by repeat (first | (with_reducible first | exact HB.out | apply below_alloc | apply pw_below_drewN | apply below_drew1 | refine below_set ?_ GE274.out) | exact HB.out)) hb); clear HO278; clear BK274; clear HB; have HO278 := n0_; have BK274 := n1_; have HB := n2_; clear n0_ n1_ n2_; (try clear hb); (try clear hb2); (try clear hk); (try clear hi)))
   go_ret2
   exact ⟨_, by first | rfl | (simp [errW_none, errW_some] <;> rfl) | (simp [*, errW_none, errW_some] <;> rfl), by exact RL HO278.out rfl, by repeat (first | (with_reducible first | exact HB.out | apply below_alloc | apply pw_below_drewN | apply below_drew1 | refine below_set ?_ GE274.out) | exact HB.out)⟩

end Go.Proofs.Ytpiaeinfneoioaa.PFnIndexes
