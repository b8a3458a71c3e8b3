-- Printed by wip/myprint.py.
import Derived.Test.YtdfbmaiboadodaaGreatDoorPFnExactParseHistoryx18
namespace Go.Proofs.YtdfbmaiboadodaaGreatDoor.PFnExactParseHistory
open Go.RowKit Go.Proofs.YtdfbmaiboadodaaGreatDoorW.PrintWords Go.Proofs.YtdfbmaiboadodaaGreatDoorW.PrintLast Go.Proofs.YtdfbmaiboadodaaGreatDoorW.PrintMore
set_option maxHeartbeats 8000000
set_option maxRecDepth 100000
set_option linter.unusedVariables false
set_option linter.unusedSimpArgs false

/-! ### laws_FnExactParseHistory: function 3 -/
theorem laws_PH_name {W W2 : World} (h : Below W.heap.size W W2) : ∃ N, W.heap.size = N := ⟨_, rfl⟩
theorem laws_heldEntryS.calls_at (k : Nat) (A0 : Option Addr) (c0 n : Nat) (l0 : List (S33)) (a1 : Int) (r : Int) (w : World) (hn : n = l0.length) (hr0 : Kd.C k33 w A0 l0.length l0) (hc0 : l0.length ≤ c0) (h : laws_heldEntryS.f k l0 a1 = some r) :
  Calls Tryz.prog 8 #[.slice A0 n c0, .int .i64 a1] w fun e w' => e = .returned (.int .i64 r) ∧ Drawn0 w w' := by
 subst hn
 exact laws_heldEntryS.calls k A0 c0 l0 a1 r w hr0 hc0 h
theorem laws_FnExactParseHistory.calls0 (a0 : ByteArray) (w : World) (c2 : (a0.size : Int) > 1048576) :
  Calls Tryz.prog 3 #[.string a0] w fun e w' => e = .returned (.bool true) ∧ Below w.heap.size w w' := by
 have HB := AM_ (Below.refl w.heap.size w)
 have c2b0 : decide (1048576 < (a0.size : Int)) = true := decide_eq_true c2
 have c2b1 : decide (1048576 < a0.size) = true := decide_eq_true (by omega)
 clear c2
 go_enter Tryz.func3, Tryz.ntmps3
 go_wp2
 go_ret
 exact QT (BT HB.out)
theorem laws_FnExactParseHistory.calls (k : Nat) (a0 : ByteArray) (t441 t445 y0 : List (S33)) (t442 : Bool) (m0 : Int) (w : World) (hTB : Tryz.TB w)
  (h1 : ¬ (a0.size : Int) > 1048576) (h2 : spec_ParseHistory.f k a0 = some (t441, t442)) (h3 : impl_ParseHistory.f k a0 = some (t445, t442)) (h4 : laws_eqEntryS.f k t445 t441 = some true) (h6 : laws_markEntryS.f k t445 1 = some (m0, y0)) (h7 : laws_heldEntryS.f k y0 1 = some m0) (h8 : ¬ m0 < 0) :
  Calls Tryz.prog 3 #[.string a0] w fun e w' => e = .returned (.bool true) ∧ Below w.heap.size w w' := by
 have HB := AM_ (Below.refl w.heap.size w)
 have c2b0 : decide (1048576 < (a0.size : Int)) = false := decide_eq_false h1
 have c2b1 : decide (1048576 < a0.size) = false := decide_eq_false (by omega)
 have A2 := AM_ h2
 have A3 := AM_ h3
 have A4 := AM_ h4
 have A6 := AM_ h6
 have A7 := AM_ h7
 have c8b0 : decide (m0 < 0) = false := decide_eq_false h8
 have c9b0 : (m0 == m0) = true := beq_iff_eq.mpr rfl
 have c9b1 : (m0 != m0) = false := bne_eq_false_iff_eq.mpr rfl
 have c5b0 : (t442 == t442) = true := beq_iff_eq.mpr rfl
 have c5b1 : (t442 != t442) = false := bne_eq_false_iff_eq.mpr rfl
 clear h1 h2 h3 h4 h6 h7 h8
 go_enter Tryz.func3, Tryz.ntmps3
 go_upto_region 5 with (first | ((with_reducible refine gate_callee (f := 4) rfl ?_); refine goesL_ (some 16) rfl rfl Tryz.func4 (by kernel_rfl) rfl #[.string a0] rfl (by (try simp only [List.map_toArray, List.map_cons, List.map_nil]); first | done | rfl | (simp only [List.length_drop, List.length_take]; rfl)) ?_; (with_reducible refine (spec_ParseHistory.calls k a0 t441 t442 _ A2.out).mono ?_); rintro e w6 ⟨v443, rfl, ho0, hb⟩; refine ⟨_, rfl, ?_⟩; have HO444 := AM_ (Kd.S_lower ho0 (below_size (BT HB.out))); replace HB := AM_ (below_step (BT HB.out) hb); (try clear hb); (try clear hb2); (try clear hk); (try clear hi); (try clear ho0)) | ((with_reducible refine gate_callee (f := 5) rfl ?_); refine goesL_ (some 21) rfl rfl Tryz.func5 (by kernel_rfl) rfl #[.string a0] rfl (by (try simp only [List.map_toArray, List.map_cons, List.map_nil]); first | done | rfl | (simp only [List.length_drop, List.length_take]; rfl)) ?_; (with_reducible refine (impl_ParseHistory.calls k a0 t445 t442 _ ?side1 A3.out).mono ?_); (case side1 => first | (with_reducible exact hTB) | exact Tryz.TB_below hTB (BT HB.out)); rintro e w7 ⟨v447, rfl, ho0, hb⟩; refine ⟨_, rfl, ?_⟩; obtain ⟨N0, hN0⟩ := laws_PH_name hb; have n0_ := AM_ (show Kd.S k33 33 w7 w.heap.size (fun k_ => k_ < N0) v443 t441 from by rw [← hN0]; exact Kd.S_mono (Kd.S_below (Kd.S_bound (show Kd.S k33 33 _ w.heap.size (fun _ => True) v443 t441 from (ST HO444.out))) hb) (fun _ hk => hk.2.2.1)); have n1_ := AM_ (show Kd.S k33 33 w7 w.heap.size (fun k_ => N0 ≤ k_) v447 t445 from by rw [← hN0]; exact Kd.S_mono (Kd.S_lower (Kd.S_bound ho0) (below_size (BT HB.out))) (fun _ hk => hk.2.1)); clear hN0; have n2_ := AM_ (below_step (BT HB.out) hb); clear HO444; clear HB; have HO444 := n0_; have HO448 := n1_; have HB := n2_; clear n0_ n1_ n2_; (try clear hb); (try clear hb2); (try clear hk); (try clear hi); (try clear ho0)))
 (try simp only [pA, pS, pZ, pK])
 obtain ⟨Ao10, co10, eo10⟩ := Kd.S_slice HO448.out
 subst eo10
 obtain ⟨Ao11, co11, eo11⟩ := Kd.S_slice HO444.out
 subst eo11
 go_wp2_with (first | ((with_reducible refine gate_callee (f := 6) rfl ?_); refine goesL_ (some 26) rfl rfl Tryz.func6 (by kernel_rfl) rfl #[.slice Ao10 t445.length co10, .slice Ao11 t441.length co11] rfl (by (try simp only [List.map_toArray, List.map_cons, List.map_nil]); first | done | rfl | (simp only [List.length_drop, List.length_take]; rfl)) ?_; (with_reducible refine (laws_eqEntryS.calls k _ _ t445 _ _ t441 true _ ?side1 ?side2 ?side3 ?side4 A4.out).mono ?_); (case side1 => exact Kd.C_below (Kd.S_reads' HO448.out).2.2 (BL (Below.refl _ _) rfl rfl rfl rfl)); (case side2 => exact (Kd.S_reads' HO448.out).2.1); (case side3 => exact Kd.C_below (Kd.S_reads' HO444.out).2.2 (BL (Below.refl _ _) rfl rfl rfl rfl)); (case side4 => exact (Kd.S_reads' HO444.out).2.1); rintro e w12 ⟨rfl, hb⟩; refine ⟨_, rfl, ?_⟩; replace HO444 := AM_ (Kd.S_below (ST HO444.out) hb); replace HO448 := AM_ (Kd.S_below (ST HO448.out) hb); replace HB := AM_ (below_step (BT HB.out) hb); (try clear hb); (try clear hb2); (try clear hk); (try clear hi)) | ((with_reducible refine gate_callee (f := 7) rfl ?_); refine goesL_ (some 35) rfl rfl Tryz.func7 (by kernel_rfl) rfl #[.slice Ao10 t445.length co10, .int .i64 1] rfl (by (try simp only [List.map_toArray, List.map_cons, List.map_nil]); first | done | rfl | (simp only [List.length_drop, List.length_take]; rfl)) ?_; (with_reducible refine (laws_markEntryS.calls k (fun k_ => N0 ≤ k_) (.slice Ao10 t445.length co10) t445 1 m0 y0 w _ ?side1 ?side2 A6.out).mono ?_); (case side1 => exact (BT HB.out)); (case side2 => (with_reducible repeat (first | apply Kd.S_alloc | apply Kd.S_drewN | apply Kd.S_drew)); exact HO448.out); rintro e w13 ⟨rfl, hy0, hb, hkp⟩; refine ⟨_, rfl, ?_⟩; have e0_ : t445.length = y0.length := (Kd.S_reads' hy0).1; have n0_ := AM_ (Kd.S_kept (show Kd.S k33 33 _ w.heap.size (fun k_ => k_ < N0) (.slice Ao11 t441.length co11) t441 from by exact SL HO444.out rfl) hkp (fun k_ hk_ hs_ => Nat.not_le.2 hk_ hs_)); have n1_ : Aside0 (Kd.S k33 33 w13 w.heap.size (fun k_ => N0 ≤ k_) (.slice Ao10 y0.length co10) y0) := ⟨by rw [← e0_]; exact hy0⟩; have n2_ := AM_ hb; have E0 := AM_ e0_; clear HO444; clear HO448; clear HB; have HO444 := n0_; have HO448 := n1_; have HB := n2_; clear n0_ n1_ n2_; (try clear hb); (try clear hkp); (try clear hy0); (try clear e0_)) | ((with_reducible refine gate_callee (f := 8) rfl ?_); refine goesL_ (some 38) rfl rfl Tryz.func8 (by kernel_rfl) rfl #[.slice Ao10 t445.length co10, .int .i64 1] rfl (by (try simp only [List.map_toArray, List.map_cons, List.map_nil]); first | done | rfl | (simp only [List.length_drop, List.length_take]; rfl)) ?_; (with_reducible refine (laws_heldEntryS.calls_at k _ _ _ y0 1 m0 _ E0.out ?side1 ?side2 A7.out).mono ?_); (case side1 => exact Kd.C_below (Kd.S_reads' HO448.out).2.2 (BL (Below.refl _ _) rfl rfl rfl rfl)); (case side2 => exact (Kd.S_reads' HO448.out).2.1); rintro e w' ⟨rfl, ⟨nd, rfl⟩⟩; refine ⟨_, rfl, ?_⟩) | ((with_reducible refine gate_callee (f := 5) rfl ?_); refine goesL_ (some 46) rfl rfl Tryz.func5 (by kernel_rfl) rfl #[.string a0] rfl (by (try simp only [List.map_toArray, List.map_cons, List.map_nil]); first | done | rfl | (simp only [List.length_drop, List.length_take]; rfl)) ?_; (with_reducible refine (impl_ParseHistory.calls k a0 t445 t442 _ ?side1 A3.out).mono ?_); (case side1 => first | (with_reducible exact hTB) | exact Tryz.TB_below hTB (BT HB.out)); rintro e w25 ⟨v454, rfl, ho0, hb⟩; refine ⟨_, rfl, ?_⟩; have HO455 := AM_ (Kd.S_lower (Kd.S_new' (Kd.S_new' ho0 (Kd.S_lt (ST HO444.out))) (Kd.S_lt (ST HO448.out))) (below_size (BT HB.out))); replace HO444 := AM_ (Kd.S_elder' (ST HO444.out) (Kd.S_base ho0) hb); replace HO448 := AM_ (Kd.S_elder' (ST HO448.out) (Kd.S_base ho0) hb); replace HB := AM_ (below_step (BT HB.out) hb); (try clear hb); (try clear hb2); (try clear hk); (try clear hi); (try clear ho0); obtain ⟨Ao28, co28, eo28⟩ := Kd.S_slice HO455.out; subst eo28) | ((with_reducible refine gate_callee (f := 6) rfl ?_); refine goesL_ (some 51) rfl rfl Tryz.func6 (by kernel_rfl) rfl #[.slice Ao28 t445.length co28, .slice Ao11 t441.length co11] rfl (by (try simp only [List.map_toArray, List.map_cons, List.map_nil]); first | done | rfl | (simp only [List.length_drop, List.length_take]; rfl)) ?_; (with_reducible refine (laws_eqEntryS.calls k _ _ t445 _ _ t441 true _ ?side1 ?side2 ?side3 ?side4 A4.out).mono ?_); (case side1 => exact Kd.C_below (Kd.S_reads' HO455.out).2.2 (BL (Below.refl _ _) rfl rfl rfl rfl)); (case side2 => exact (Kd.S_reads' HO455.out).2.1); (case side3 => exact Kd.C_below (Kd.S_reads' HO444.out).2.2 (BL (Below.refl _ _) rfl rfl rfl rfl)); (case side4 => exact (Kd.S_reads' HO444.out).2.1); rintro e w30 ⟨rfl, hb⟩; refine ⟨_, rfl, ?_⟩; replace HO444 := AM_ (Kd.S_below (ST HO444.out) hb); replace HO448 := AM_ (Kd.S_below (ST HO448.out) hb); replace HO455 := AM_ (Kd.S_below (ST HO455.out) hb); replace HB := AM_ (below_step (BT HB.out) hb); (try clear hb); (try clear hb2); (try clear hk); (try clear hi)) | ((with_reducible refine gate_callee (f := 8) rfl ?_); refine goesL_ (some 60) rfl rfl Tryz.func8 (by kernel_rfl) rfl #[.slice Ao10 t445.length co10, .int .i64 1] rfl (by (try simp only [List.map_toArray, List.map_cons, List.map_nil]); first | done | rfl | (simp only [List.length_drop, List.length_take]; rfl)) ?_; (with_reducible refine (laws_heldEntryS.calls_at k _ _ _ y0 1 m0 _ E0.out ?side1 ?side2 A7.out).mono ?_); (case side1 => exact Kd.C_below (Kd.S_reads' HO448.out).2.2 (BL (Below.refl _ _) rfl rfl rfl rfl)); (case side2 => exact (Kd.S_reads' HO448.out).2.1); rintro e w' ⟨rfl, ⟨nd, rfl⟩⟩; refine ⟨_, rfl, ?_⟩))
 go_ret
 exact QT (BT HB.out)

def laws_FnExactParseHistory.Pure : Prop := ∀ (a0 : ByteArray), a0.size ≤ 140737488351232 → (a0.size : Int) > 1048576 ∨ ∃ (k : Nat) (t441 t445 y0 : List (S33)) (t442 : Bool) (m0 : Int), ¬ (a0.size : Int) > 1048576 ∧ spec_ParseHistory.f k a0 = some (t441, t442) ∧ impl_ParseHistory.f k a0 = some (t445, t442) ∧ laws_eqEntryS.f k t445 t441 = some true ∧ laws_markEntryS.f k t445 1 = some (m0, y0) ∧ laws_heldEntryS.f k y0 1 = some m0 ∧ ¬ m0 < 0
theorem laws_FnExactParseHistory.walk (P : laws_FnExactParseHistory.Pure) (a0 : ByteArray) (w : World) (hTB : Tryz.TB w) (w0 : a0.size ≤ 140737488351232) :
  Calls Tryz.prog 3 #[.string a0] w fun e w' => e = .returned (.bool true) ∧ Below w.heap.size w w' := by
 rcases P a0 w0 with h | ⟨k, _, _, _, _, _, h1, h2, h3, h4, h6, h7, h8⟩
 ·exact laws_FnExactParseHistory.calls0 a0 w h
 ·exact laws_FnExactParseHistory.calls k a0 _ _ _ _ _ w hTB h1 h2 h3 h4 h6 h7 h8

end Go.Proofs.YtdfbmaiboadodaaGreatDoor.PFnExactParseHistory
