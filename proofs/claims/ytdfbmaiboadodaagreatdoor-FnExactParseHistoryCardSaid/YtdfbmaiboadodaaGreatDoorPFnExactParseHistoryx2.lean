-- Printed by wip/myprint.py.
import Derived.Test.YtdfbmaiboadodaaGreatDoorPFnExactParseHistoryx1
namespace Go.Proofs.YtdfbmaiboadodaaGreatDoor.PFnExactParseHistory
open Go.RowKit Go.Proofs.YtdfbmaiboadodaaGreatDoorW.PrintWords Go.Proofs.YtdfbmaiboadodaaGreatDoorW.PrintLast Go.Proofs.YtdfbmaiboadodaaGreatDoorW.PrintMore
set_option maxHeartbeats 8000000
set_option maxRecDepth 100000
set_option linter.unusedVariables false
set_option linter.unusedSimpArgs false

/-! ### spec_l18Read: function 10 -/
mutual
def spec_l18Read.l0 : Nat → List ByteArray → Int → Int → Int → List (S48) → List (S50) → Option (Int × Int × (List (S48)) × (List (S50)))
 | 0, _, _, _, _, _, _ => none
 | k + 1, x3, x6, x129000, x129001, x129002, x129003 => if x6 < (x3.length : Int) then (spec_l18Read.j1 k x3 x6 (decide (x6 < 70)) x129000 x129001 x129002 x129003) else (spec_l18Read.j1 k x3 x6 false x129000 x129001 x129002 x129003)
def spec_l18Read.j1 : Nat → List ByteArray → Int → Bool → Int → Int → List (S48) → List (S50) → Option (Int × Int × (List (S48)) × (List (S50)))
 | 0, _, _, _, _, _, _, _ => none
 | k + 1, x3, x6, x43, x129000, x129001, x129002, x129003 => if x43 = true then (if 0 ≤ x6 then (if x6 < (x3.length : Int) then ((spec_l2Cut.f k (rdOf ByteArray.empty x3 x6) 58).bind fun t136 => (if (t136.length : Int) = 2 then (if 0 < (t136.length : Int) then (spec_l18Read.j2 k x3 x6 t136 (((rdOf ByteArray.empty t136 0).size : Int) != 2) x129000 x129001 x129002 x129003) else (none)) else (spec_l18Read.j2 k x3 x6 t136 true x129000 x129001 x129002 x129003))) else (none)) else (none)) else (some (x129000, x129001, x129002, x129003))
def spec_l18Read.j2 : Nat → List ByteArray → Int → List ByteArray → Bool → Int → Int → List (S48) → List (S50) → Option (Int × Int × (List (S48)) × (List (S50)))
 | 0, _, _, _, _, _, _, _, _ => none
 | k + 1, x3, x6, x7, x60, x129000, x129001, x129002, x129003 => if x60 = true then (spec_l18Read.l0 k x3 (wrap64 (x6 + 1)) x129000 x129001 x129002 x129003) else (if 0 < (x7.length : Int) then (if 1 < ((rdOf ByteArray.empty x7 0).size : Int) then (if 1 < (x7.length : Int) then ((spec_l3Number.f k (rdOf ByteArray.empty x7 1)).bind fun t142 => (if 0 < ((rdOf ByteArray.empty x7 0).size : Int) then (if (bt (rdOf ByteArray.empty x7 0) 0) = 114 then (if x129002.length < 8796093022208 then (spec_l18Read.l0 k x3 (wrap64 (x6 + 1)) x129000 x129001 (x129002 ++ [(⟨wrap64 ((wrap64 (bt (rdOf ByteArray.empty x7 0) 1)) - 48), t142⟩ : S48)]) x129003) else (none)) else (if x129003.length < 8796093022208 then (spec_l18Read.l0 k x3 (wrap64 (x6 + 1)) x129000 x129001 x129002 (x129003 ++ [(⟨wrap64 ((wrap64 (bt (rdOf ByteArray.empty x7 0) 1)) - 48), t142⟩ : S50)])) else (none))) else (none))) else (none)) else (none)) else (none))
end
def spec_l18Read.f (k : Nat) (a0 : ByteArray) : Option (Int × Int × (List (S48)) × (List (S50))) := (spec_l2Cut.f k a0 32).bind fun t121 => (if 0 < (t121.length : Int) then ((spec_l2Cut.f k (rdOf ByteArray.empty t121 0) 64).bind fun t125 => (if 0 < (t125.length : Int) then ((spec_ParseInt.f k (rdOf ByteArray.empty t125 0)).bind fun bt130 => (if 0 ≤ (wrap64 ((t125.length : Int) - 1)) then (if (wrap64 ((t125.length : Int) - 1)) < (t125.length : Int) then ((spec_ParseInt.f k (rdOf ByteArray.empty t125 (wrap64 ((t125.length : Int) - 1)))).bind fun bt133 => (spec_l18Read.l0 k t121 1 bt130.1 bt133.1 ([] : List (S48)) ([] : List (S50)))) else (none)) else (none))) else (none))) else (none))
theorem spec_l18Read.mono_l : ∀ k, (∀ y0 y1 y2 y3 y4 y5, LeO (spec_l18Read.l0 k y0 y1 y2 y3 y4 y5) (spec_l18Read.l0 (k + 1) y0 y1 y2 y3 y4 y5)) ∧ (∀ y0 y1 y2 y3 y4 y5 y6, LeO (spec_l18Read.j1 k y0 y1 y2 y3 y4 y5 y6) (spec_l18Read.j1 (k + 1) y0 y1 y2 y3 y4 y5 y6)) ∧ (∀ y0 y1 y2 y3 y4 y5 y6 y7, LeO (spec_l18Read.j2 k y0 y1 y2 y3 y4 y5 y6 y7) (spec_l18Read.j2 (k + 1) y0 y1 y2 y3 y4 y5 y6 y7))
 | 0 => ⟨fun _ _ _ _ _ _ r h => by simp [spec_l18Read.l0] at h, fun _ _ _ _ _ _ _ r h => by simp [spec_l18Read.j1] at h, fun _ _ _ _ _ _ _ _ r h => by simp [spec_l18Read.j2] at h⟩
 | k + 1 => by
  obtain ⟨ih0, ih1, ih2⟩ := spec_l18Read.mono_l k
  refine ⟨?_, ?_, ?_⟩
  ·intro y0 y1 y2 y3 y4 y5
   unfold spec_l18Read.l0
   repeat' first
   | (with_reducible exact ih0 _ _ _ _ _ _)
   | (with_reducible exact ih1 _ _ _ _ _ _ _)
   | (with_reducible exact ih2 _ _ _ _ _ _ _ _)
   | (with_reducible exact spec_ParseInt.mono _ _)
   | (with_reducible exact spec_l2Cut.mono _ _ _)
   | (with_reducible exact spec_l3Number.mono _ _)
   | (with_reducible first | exact LeO.refl _ | exact LeO.none _ | refine LeO.ite ?_ ?_ | refine LeO.bind ?_ (fun _ => ?_))
   | exact ih0 _ _ _ _ _ _
   | exact ih1 _ _ _ _ _ _ _
   | exact ih2 _ _ _ _ _ _ _ _
   | exact spec_ParseInt.mono _ _
   | exact spec_l2Cut.mono _ _ _
   | exact spec_l3Number.mono _ _
   | exact LeO.none _ | refine LeO.ite ?_ ?_ | refine LeO.bind ?_ (fun _ => ?_)
  ·intro y0 y1 y2 y3 y4 y5 y6
   unfold spec_l18Read.j1
   repeat' first
   | (with_reducible exact ih0 _ _ _ _ _ _)
   | (with_reducible exact ih1 _ _ _ _ _ _ _)
   | (with_reducible exact ih2 _ _ _ _ _ _ _ _)
   | (with_reducible exact spec_ParseInt.mono _ _)
   | (with_reducible exact spec_l2Cut.mono _ _ _)
   | (with_reducible exact spec_l3Number.mono _ _)
   | (with_reducible first | exact LeO.refl _ | exact LeO.none _ | refine LeO.ite ?_ ?_ | refine LeO.bind ?_ (fun _ => ?_))
   | exact ih0 _ _ _ _ _ _
   | exact ih1 _ _ _ _ _ _ _
   | exact ih2 _ _ _ _ _ _ _ _
   | exact spec_ParseInt.mono _ _
   | exact spec_l2Cut.mono _ _ _
   | exact spec_l3Number.mono _ _
   | exact LeO.none _ | refine LeO.ite ?_ ?_ | refine LeO.bind ?_ (fun _ => ?_)
  ·intro y0 y1 y2 y3 y4 y5 y6 y7
   unfold spec_l18Read.j2
   repeat' first
   | (with_reducible exact ih0 _ _ _ _ _ _)
   | (with_reducible exact ih1 _ _ _ _ _ _ _)
   | (with_reducible exact ih2 _ _ _ _ _ _ _ _)
   | (with_reducible exact spec_ParseInt.mono _ _)
   | (with_reducible exact spec_l2Cut.mono _ _ _)
   | (with_reducible exact spec_l3Number.mono _ _)
   | (with_reducible first | exact LeO.refl _ | exact LeO.none _ | refine LeO.ite ?_ ?_ | refine LeO.bind ?_ (fun _ => ?_))
   | exact ih0 _ _ _ _ _ _
   | exact ih1 _ _ _ _ _ _ _
   | exact ih2 _ _ _ _ _ _ _ _
   | exact spec_ParseInt.mono _ _
   | exact spec_l2Cut.mono _ _ _
   | exact spec_l3Number.mono _ _
   | exact LeO.none _ | refine LeO.ite ?_ ?_ | refine LeO.bind ?_ (fun _ => ?_)
theorem spec_l18Read.mono : ∀ a0 k, LeO (spec_l18Read.f k a0) (spec_l18Read.f (k + 1) a0) := by
 intro a0 k
 obtain ⟨ih0, ih1, ih2⟩ := spec_l18Read.mono_l k
 unfold spec_l18Read.f
 repeat' first
   | (with_reducible exact ih0 _ _ _ _ _ _)
   | (with_reducible exact ih1 _ _ _ _ _ _ _)
   | (with_reducible exact ih2 _ _ _ _ _ _ _ _)
   | (with_reducible exact spec_ParseInt.mono _ _)
   | (with_reducible exact spec_l2Cut.mono _ _ _)
   | (with_reducible exact spec_l3Number.mono _ _)
   | (with_reducible first | exact LeO.refl _ | exact LeO.none _ | refine LeO.ite ?_ ?_ | refine LeO.bind ?_ (fun _ => ?_))
   | exact ih0 _ _ _ _ _ _
   | exact ih1 _ _ _ _ _ _ _
   | exact ih2 _ _ _ _ _ _ _ _
   | exact spec_ParseInt.mono _ _
   | exact spec_l2Cut.mono _ _ _
   | exact spec_l3Number.mono _ _
   | exact LeO.none _ | refine LeO.ite ?_ ?_ | refine LeO.bind ?_ (fun _ => ?_)
theorem spec_l18Read.calls (k : Nat) (a0 : ByteArray) (r1 : Int) (r2 : Int) (r3 : List (S48)) (r4 : List (S50)) (w : World) (h : spec_l18Read.f k a0 = some (r1, r2, r3, r4)) :
  Calls Tryz.prog 10 #[.string a0] w fun e w' => ∃ v2_ v3_ : Value, e = .returned (.agg #[.int .i64 r1, .int .i64 r2, v2_, v3_]) ∧ Kd.R k48 48 w' w.heap.size (fun _ => True) v2_ r3 ∧ Kd.R k50 50 w' w.heap.size (fun _ => True) v3_ r4 ∧ Below w.heap.size w w' := by
 have hu33 := Tryz.underlying33
 have hu48 := Tryz.underlying48
 have hu50 := Tryz.underlying50
 have HB := AM_ (Below.refl w.heap.size w)
 have H : ((spec_l2Cut.f k a0 32).bind fun t121 => (if 0 < (t121.length : Int) then ((spec_l2Cut.f k (rdOf ByteArray.empty t121 0) 64).bind fun t125 => (if 0 < (t125.length : Int) then ((spec_ParseInt.f k (rdOf ByteArray.empty t125 0)).bind fun bt130 => (if 0 ≤ (wrap64 ((t125.length : Int) - 1)) then (if (wrap64 ((t125.length : Int) - 1)) < (t125.length : Int) then ((spec_ParseInt.f k (rdOf ByteArray.empty t125 (wrap64 ((t125.length : Int) - 1)))).bind fun bt133 => (spec_l18Read.l0 k t121 1 bt130.1 bt133.1 ([] : List (S48)) ([] : List (S50)))) else (none)) else (none))) else (none))) else (none))) = some (r1, r2, r3, r4) := h
 clear h
 replace H := Option.bind_eq_some_iff.mp H
 obtain ⟨t121, A20, H⟩ := H
 replace H : (if 0 < (t121.length : Int) then ((spec_l2Cut.f k (rdOf ByteArray.empty t121 0) 64).bind fun t125 => (if 0 < (t125.length : Int) then ((spec_ParseInt.f k (rdOf ByteArray.empty t125 0)).bind fun bt130 => (if 0 ≤ (wrap64 ((t125.length : Int) - 1)) then (if (wrap64 ((t125.length : Int) - 1)) < (t125.length : Int) then ((spec_ParseInt.f k (rdOf ByteArray.empty t125 (wrap64 ((t125.length : Int) - 1)))).bind fun bt133 => (spec_l18Read.l0 k t121 1 bt130.1 bt133.1 ([] : List (S48)) ([] : List (S50)))) else (none)) else (none))) else (none))) else (none)) = some (r1, r2, r3, r4) := H
 have A2 := AM_ A20
 clear A20
 replace H := HI H
 obtain ⟨c3, H⟩ := H
 have c3b0 : decide (0 < (t121.length : Int)) = true := decide_eq_true c3
 have c3b1 : decide (0 < t121.length) = true := decide_eq_true (by omega)
 clear c3
 replace H := Option.bind_eq_some_iff.mp H
 obtain ⟨t125, A40, H⟩ := H
 replace H : (if 0 < (t125.length : Int) then ((spec_ParseInt.f k (rdOf ByteArray.empty t125 0)).bind fun bt130 => (if 0 ≤ (wrap64 ((t125.length : Int) - 1)) then (if (wrap64 ((t125.length : Int) - 1)) < (t125.length : Int) then ((spec_ParseInt.f k (rdOf ByteArray.empty t125 (wrap64 ((t125.length : Int) - 1)))).bind fun bt133 => (spec_l18Read.l0 k t121 1 bt130.1 bt133.1 ([] : List (S48)) ([] : List (S50)))) else (none)) else (none))) else (none)) = some (r1, r2, r3, r4) := H
 have A4 := AM_ A40
 clear A40
 replace H := HI H
 obtain ⟨c5, H⟩ := H
 have c5b0 : decide (0 < (t125.length : Int)) = true := decide_eq_true c5
 have c5b1 : decide (0 < t125.length) = true := decide_eq_true (by omega)
 clear c5
 replace H := Option.bind_eq_some_iff.mp H
 obtain ⟨⟨t130, t131⟩, A60, H⟩ := H
 replace H : (if 0 ≤ (wrap64 ((t125.length : Int) - 1)) then (if (wrap64 ((t125.length : Int) - 1)) < (t125.length : Int) then ((spec_ParseInt.f k (rdOf ByteArray.empty t125 (wrap64 ((t125.length : Int) - 1)))).bind fun bt133 => (spec_l18Read.l0 k t121 1 t130 bt133.1 ([] : List (S48)) ([] : List (S50)))) else (none)) else (none)) = some (r1, r2, r3, r4) := H
 have A6 := AM_ A60
 clear A60
 obtain ⟨ji7, hji7⟩ : ∃ j_ : Int, (wrap64 ((t125.length : Int) - 1)) = j_ := ⟨_, rfl⟩
 replace H : (if 0 ≤ (ji7) then (if (ji7) < (t125.length : Int) then ((spec_ParseInt.f k (rdOf ByteArray.empty t125 (ji7))).bind fun bt133 => (spec_l18Read.l0 k t121 1 t130 bt133.1 ([] : List (S48)) ([] : List (S50)))) else (none)) else (none)) = some (r1, r2, r3, r4) := by first | (rw [hji7] at H; exact H) | (simp only [hji7] at H ⊢; exact H)
 (try rw [hji7] at A2)
 (try rw [hji7] at A4)
 (try rw [hji7] at A6)
 have hji7w : (IntKind.i64.wrap ((t125.length : Int) - 1)) = ji7 := (i64_w _).trans hji7
 replace H := HI H
 obtain ⟨c8, H⟩ := H
 have c8b0 : decide (0 ≤ (ji7)) = true := decide_eq_true c8
 clear c8
 replace H := HI H
 obtain ⟨c9, H⟩ := H
 have c9b0 : decide ((ji7) < (t125.length : Int)) = true := decide_eq_true c9
 clear c9
 replace H := Option.bind_eq_some_iff.mp H
 obtain ⟨⟨t133, t134⟩, A100, H⟩ := H
 replace H : (spec_l18Read.l0 k t121 1 t130 t133 ([] : List (S48)) ([] : List (S50))) = some (r1, r2, r3, r4) := H
 have A10 := AM_ A100
 clear A100
 have H' := AM_ H
 clear H
 go_enter Tryz.func10, Tryz.ntmps10
 go_wp2_with (first | ((with_reducible refine gate_dst (N := 2) rfl ?_); (try (refine gate_guard (by rfl) ?_; dsimp only)); refine box_event ?hg (N := 2) ?hd (cs := #[.int .i64 0, .int .i64 0, .slice none 0 0, .slice none 0 0]) (t := 33) ?hr ?_; (case hd => rfl); (case hg => rfl); (case hr => first | (go_simp; done) | (go_simp; rfl)); intro gb120 hg w11 hbox hb; have BK120 := AM_ (hbox); have GW120 := AM_ ((GS HB.out hg)); have GE120 := AM_ ((GS HB.out hg)); replace HB := AM_ (below_step (BT HB.out) hb); clear hb hbox hg) | ((with_reducible refine gate_callee (f := 9) rfl ?_); refine goesL_ (some 11) rfl rfl Tryz.func9 (by kernel_rfl) rfl #[.string a0, .int .u8 32] rfl (by (try simp only [List.map_toArray, List.map_cons, List.map_nil]); first | done | rfl | (simp only [List.length_drop, List.length_take]; rfl)) ?_; (with_reducible refine (spec_l2Cut.calls k a0 32 t121 _ A2.out).mono ?_); rintro e w12 ⟨v122, rfl, ho0, hb⟩; refine ⟨_, rfl, ?_⟩; have HO123 := AM_ (Kd.R_lower ho0 (below_size (BT HB.out))); replace BK120 := AM_ (BB BK120.out hb); replace HB := AM_ (below_step (BT HB.out) hb); (try clear hb); (try clear hb2); (try clear hk); (try clear hi); (try clear ho0); obtain ⟨Ao13, co13, eo13⟩ := Kd.R_slice HO123.out; subst eo13; have p124 : 0 ≤ (0 : Int) := (by omega); have q124 : 0 < (t121.length : Int) := DT; obtain ⟨ad124, e124, hx124_0⟩ := Kd.at_string (Kd.R_reads' HO123.out).2.2 0 p124 q124; cases e124; have qi124 : (0 < t121.length) = True := eq_true (by omega); (try rw [show ((0 : Int)).toNat = 0 from rfl] at hx124_0); (try rw [Addr.add_zero'] at hx124_0); replace p124 := eq_true p124; replace q124 := eq_true q124) | ((with_reducible refine gate_callee (f := 9) rfl ?_); refine goesL_ (some 15) rfl rfl Tryz.func9 (by kernel_rfl) rfl #[.string (rdOf ByteArray.empty t121 0), .int .u8 64] rfl (by (try simp only [List.map_toArray, List.map_cons, List.map_nil]); first | done | rfl | (simp only [List.length_drop, List.length_take]; rfl)) ?_; (with_reducible refine (spec_l2Cut.calls k (rdOf ByteArray.empty t121 0) 64 t125 _ A4.out).mono ?_); rintro e w14 ⟨v126, rfl, ho0, hb⟩; refine ⟨_, rfl, ?_⟩; have HO127 := AM_ (Kd.R_lower (Kd.R_new' ho0 (Kd.R_lt (RT HO123.out))) (below_size (BT HB.out))); replace HO123 := AM_ (Kd.R_elder' (RT HO123.out) (Kd.R_base ho0) hb); replace BK120 := AM_ (BB BK120.out hb); replace HB := AM_ (below_step (BT HB.out) hb); (try clear hb); (try clear hb2); (try clear hk); (try clear hi); (try clear ho0)) | ((with_reducible refine gate_dst (N := 5) rfl ?_); (try (refine gate_guard (by rfl) ?_; dsimp only)); refine box_event ?hg (N := 5) ?hd (cs := #[.int .i64 0, .int .i64 0, .slice none 0 0, .slice none 0 0]) (t := 33) ?hr ?_; (case hd => rfl); (case hg => rfl); (case hr => first | (go_simp; done) | (go_simp; rfl)); intro gb128 hg w15 hbox hb; replace HO123 := AM_ (Kd.R_below (RT HO123.out) hb); replace HO127 := AM_ (Kd.R_below (RT HO127.out) hb); have BK128 := AM_ (hbox); have GW128 := AM_ ((GS HB.out hg)); have GE128 := AM_ ((GS HB.out hg)); replace HB := AM_ (below_step (BT HB.out) hb); have NB120_128 := AM_ ((NL BK120.out hg)); have NB128_120 := AM_ ((NG BK120.out hg)); replace BK120 := AM_ (BB BK120.out hb); clear hb hbox hg; have hnb16 := NB128_120.out; have hnc16 := NB120_128.out; obtain ⟨hcz17_0, hcz17_1, hcz17_2, hcz17_3, hfz17_0, hfz17_1, hfz17_2, hfz17_3⟩ := bk4 BK128.out; obtain ⟨Ao18, co18, eo18⟩ := Kd.R_slice HO127.out; subst eo18; have p129 : 0 ≤ (0 : Int) := (by omega); have q129 : 0 < (t125.length : Int) := DT; obtain ⟨ad129, e129, hx129_0⟩ := Kd.at_string (Kd.R_reads' HO127.out).2.2 0 p129 q129; cases e129; have qi129 : (0 < t125.length) = True := eq_true (by omega); (try rw [show ((0 : Int)).toNat = 0 from rfl] at hx129_0); (try rw [Addr.add_zero'] at hx129_0); have hn129_0 : ad129.block ≠ gb128 := Kd.own_blk (Kd.R_ne HO127.out BK128.out (by decide)); have hn129_1 : ad129.block ≠ gb128 := Kd.own_blk (Kd.R_ne HO127.out BK128.out (by decide)); have hn129_2 : ad129.block ≠ gb128 := Kd.own_blk (Kd.R_ne HO127.out BK128.out (by decide)); have hn129_3 : ad129.block ≠ gb128 := Kd.own_blk (Kd.R_ne HO127.out BK128.out (by decide)); replace hx129_0 := (cell_far (p := ⟨gb128, 0, none⟩) (by first | (rw [add_block]; exact hn129_0) | (show (Addr.add _ _).block ≠ _; rw [add_block]; exact hn129_0) | exact hn129_0) (.int .i64 0)).trans hx129_0; replace hx129_0 := (cell_far (p := ⟨gb128, 1, none⟩) (by first | (rw [add_block]; exact hn129_1) | (show (Addr.add _ _).block ≠ _; rw [add_block]; exact hn129_1) | exact hn129_1) (.int .i64 0)).trans hx129_0; replace hx129_0 := (cell_far (p := ⟨gb128, 2, none⟩) (by first | (rw [add_block]; exact hn129_2) | (show (Addr.add _ _).block ≠ _; rw [add_block]; exact hn129_2) | exact hn129_2) (.slice none 0 0)).trans hx129_0; replace hx129_0 := (cell_far (p := ⟨gb128, 3, none⟩) (by first | (rw [add_block]; exact hn129_3) | (show (Addr.add _ _).block ≠ _; rw [add_block]; exact hn129_3) | exact hn129_3) (.slice none 0 0)).trans hx129_0; clear hn129_0; clear hn129_1; clear hn129_2; clear hn129_3; replace p129 := eq_true p129; replace q129 := eq_true q129) | ((with_reducible refine gate_callee (f := 22) rfl ?_); refine goesL_ (some 21) rfl rfl Tryz.func22 (by kernel_rfl) rfl #[.string (rdOf ByteArray.empty t125 0)] rfl (by (try simp only [List.map_toArray, List.map_cons, List.map_nil]); first | done | rfl | (simp only [List.length_drop, List.length_take]; rfl)) ?_; (with_reducible refine (spec_ParseInt.calls k (rdOf ByteArray.empty t125 0) t130 t131 _ A6.out).mono ?_); rintro e w19 ⟨rfl, hb⟩; refine ⟨_, rfl, ?_⟩; replace HO123 := AM_ (Kd.R_below (RF HO123.out BK128.out) hb); replace HO127 := AM_ (Kd.R_below (RF HO127.out BK128.out) hb); replace BK120 := AM_ (BF BK120.out NB120_128.out hb); replace BK128 := AM_ (BP #[.int .i64 0, .int .i64 0, .slice none 0 0, .slice none 0 0] BK128.out hb); replace HB := AM_ (below_step (BT HB.out) hb); (try clear hb); (try clear hb2); (try clear hk); (try clear hi); obtain ⟨hcz20_0, hcz20_1, hcz20_2, hcz20_3, hfz20_0, hfz20_1, hfz20_2, hfz20_3⟩ := bk4 BK128.out; have p132 : 0 ≤ ((ji7) : Int) := DT; have q132 : (ji7) < (t125.length : Int) := DT; obtain ⟨ad132, e132, hx132_0⟩ := Kd.at_string (Kd.R_reads' HO127.out).2.2 (ji7) p132 q132; obtain rfl : ad129 = ad132 := (by injection e132); have hn132_0 : ad129.block ≠ gb128 := Kd.own_blk (Kd.R_ne HO127.out BK128.out (by decide)); replace hx132_0 := (cell_far (p := ⟨gb128, 0, none⟩) (by first | (rw [add_block]; exact hn132_0) | (show (Addr.add _ _).block ≠ _; rw [add_block]; exact hn132_0) | exact hn132_0) (.int .i64 t130)).trans hx132_0; clear hn132_0; replace p132 := eq_true p132; replace q132 := eq_true q132) | ((with_reducible refine gate_callee (f := 22) rfl ?_); refine goesL_ (some 32) rfl rfl Tryz.func22 (by kernel_rfl) rfl #[.string (rdOf ByteArray.empty t125 (ji7))] rfl (by (try simp only [List.map_toArray, List.map_cons, List.map_nil]); first | done | (simp only [hji7]; rfl) | rfl | (simp only [List.length_drop, List.length_take]; rfl)) ?_; (with_reducible refine (spec_ParseInt.calls k (rdOf ByteArray.empty t125 (ji7)) t133 t134 _ A10.out).mono ?_); rintro e w21 ⟨rfl, hb⟩; refine ⟨_, rfl, ?_⟩; replace HO123 := AM_ (Kd.R_below (RF HO123.out BK128.out) hb); replace HO127 := AM_ (Kd.R_below (RF HO127.out BK128.out) hb); replace BK120 := AM_ (BF BK120.out NB120_128.out hb); replace BK128 := AM_ (BP #[.int .i64 t130, .int .i64 0, .slice none 0 0, .slice none 0 0] BK128.out hb); replace HB := AM_ (below_step (BT HB.out) hb); (try clear hb); (try clear hb2); (try clear hk); (try clear hi); obtain ⟨hcz22_0, hcz22_1, hcz22_2, hcz22_3, hfz22_0, hfz22_1, hfz22_2, hfz22_3⟩ := bk4 BK128.out))
 go_loopg [6] k (fun kq v6 w' => ∃ (x6_1 : Int) (x129002_1 : List (S48)) (x129003_1 : List (S50)) (u129002 : Value) (u129003 : Value), v6 = .int .i64 x6_1 ∧ Aside0 (spec_l18Read.l0 kq t121 x6_1 t130 t133 x129002_1 x129003_1 = some (r1, r2, r3, r4)) ∧ Aside0 (kq ≤ k) ∧ Aside0 (Kd.R Kd.string 9 w' w.heap.size (fun _ => True) (.slice (some ad124) t121.length co13) t121) ∧ Aside0 (Kd.R k48 48 w' w.heap.size (fun _ => True) u129002 x129002_1) ∧ Aside0 (Kd.R k50 50 w' w.heap.size (fun _ => True) u129003 x129003_1) ∧ Aside0 (w'.heap[gb120]? = some (.cells #[.int .i64 0, .int .i64 0, (.slice none 0 0), (.slice none 0 0)] 33 (0, 0))) ∧ Aside0 (w'.heap[gb128]? = some (.cells #[.int .i64 t130, .int .i64 t133, u129002, u129003] 33 (0, 0))) ∧ Aside0 (Below w.heap.size w w'))
 case atStart => exact ⟨(1), (([] : List (S48))), (([] : List (S50))), (.slice none 0 0), (.slice none 0 0), (by first | rfl | (simp; done) | (simp [*]; done)), H', ⟨Nat.le_refl _⟩, ⟨by (with_reducible repeat (first | apply Kd.R_alloc | apply Kd.R_drewN | apply Kd.R_drew)); exact Kd.R_mono (Kd.R_far (p := ⟨gb128, 1, none⟩) (Kd.R_types HO123.out BK128.out (by decide)) (fun _ hk => hk.2) (.int .i64 t133)) (fun _ hk => trivial)⟩, ⟨by first | exact Kd.R_nil _ _ _ _ _ | exact Kd.N_nil _ _ _ _ _ | exact Kd.V_nil _ _ _ _ _ | exact Kd.Q_nil _ _ _ _ _ | exact Kd.S_nil _ _ _ _ _⟩, ⟨by first | exact Kd.R_nil _ _ _ _ _ | exact Kd.N_nil _ _ _ _ _ | exact Kd.V_nil _ _ _ _ _ | exact Kd.Q_nil _ _ _ _ _ | exact Kd.S_nil _ _ _ _ _⟩, ⟨BG BK120.out NB120_128.out⟩, ⟨BQ BK128.out⟩, ⟨BT HB.out⟩⟩
 case round =>
  clear H'
  try clear c1
  try clear p1
  try clear q1
  try clear hx1
  try clear qi1
  try clear c2
  try clear p2
  try clear c3
  try clear c3b0
  try clear c3b1
  try clear c5
  try clear c5b0
  try clear c5b1
  try clear p6
  try clear c8
  try clear c8b0
  try clear c9
  try clear c9b0
  try clear c10
  try clear p12
  try clear q12
  try clear hx12
  try clear qi12
  try clear p13
  try clear q13
  try clear hx13
  try clear c16
  try clear c22
  try clear hcz17_0
  try clear hcz17_1
  try clear hcz17_2
  try clear hcz17_3
  try clear hcz20_0
  try clear hcz20_1
  try clear hcz20_2
  try clear hcz20_3
  try clear hcz22_0
  try clear hcz22_1
  try clear hcz22_2
  try clear hcz22_3
  try clear hfz17_0
  try clear hfz17_1
  try clear hfz17_2
  try clear hfz17_3
  try clear hfz20_0
  try clear hfz20_1
  try clear hfz20_2
  try clear hfz20_3
  try clear hfz22_0
  try clear hfz22_1
  try clear hfz22_2
  try clear hfz22_3
  try clear hx124_0
  try clear hx129_0
  try clear hx132_0
  try clear p124
  try clear p129
  try clear p132
  try clear q124
  try clear q129
  try clear q132
  obtain ⟨x6_1, x129002_1, x129003_1, u129002, u129003, rfl, HA, HK1, HO_3, HO_129002, HO_129003, BK120, BK128, HB⟩ := hrel
  cases gk with
  | zero => exact absurd HA.out (by simp [spec_l18Read.l0])
  | succ k1 =>
   have H := HA.out
   clear HA
   simp only [spec_l18Read.l0] at H
   have HC23 := AM_ H
   clear H
   go_upto_region 7 with (fail)
   go_cut [43] (fun v43 wc => ∃ (kq : Nat) (x43_22 : Bool), v43 = .bool x43_22 ∧ Aside0 (spec_l18Read.j1 kq t121 x6_1 x43_22 t130 t133 x129002_1 x129003_1 = some (r1, r2, r3, r4)) ∧ Aside0 (kq ≤ k1) ∧ Aside0 (Kd.R Kd.string 9 wc w.heap.size (fun _ => True) (.slice (some ad124) t121.length co13) t121) ∧ Aside0 (Kd.R k48 48 wc w.heap.size (fun _ => True) u129002 x129002_1) ∧ Aside0 (Kd.R k50 50 wc w.heap.size (fun _ => True) u129003 x129003_1) ∧ Aside0 (wc.heap[gb120]? = some (.cells #[.int .i64 0, .int .i64 0, (.slice none 0 0), (.slice none 0 0)] 33 (0, 0))) ∧ Aside0 (wc.heap[gb128]? = some (.cells #[.int .i64 t130, .int .i64 t133, u129002, u129003] 33 (0, 0))) ∧ Aside0 (Below w.heap.size w wc))
   case first =>
    have H := HC23.out
    clear HC23
    by_cases c24 : x6_1 < (t121.length : Int)
    rotate_left
    ·rw [if_neg c24] at H
     have c24b0 : decide (x6_1 < (t121.length : Int)) = false := decide_eq_false c24
     clear c24
     (first | rw [c24b0] | (simp only [i64_w, i32_w]; rw [c24b0]) | skip)
     have H' := AM_ H
     clear H
     go_wp2
     go_meet
     case rel => exact ⟨_, (false), (by first | rfl | (simp; done) | (simp [*]; done)), H', ⟨by have := HK1.out; first | omega | exact Nat.le_refl _⟩, ⟨RT HO_3.out⟩, ⟨RT HO_129002.out⟩, ⟨RT HO_129003.out⟩, ⟨BH BK120.out⟩, ⟨BH BK128.out⟩, ⟨BT HB.out⟩⟩
    rw [if_pos c24] at H
    have c24b0 : decide (x6_1 < (t121.length : Int)) = true := decide_eq_true c24
    clear c24
    (first | rw [c24b0] | (simp only [i64_w, i32_w]; rw [c24b0]) | skip)
    have H' := AM_ H
    clear H
    go_wp2
    go_meet
    case rel => exact ⟨_, (decide (x6_1 < 70)), (by first | rfl | (simp; done) | (simp [*]; done)), H', ⟨by have := HK1.out; first | omega | exact Nat.le_refl _⟩, ⟨RT HO_3.out⟩, ⟨RT HO_129002.out⟩, ⟨RT HO_129003.out⟩, ⟨BH BK120.out⟩, ⟨BH BK128.out⟩, ⟨BT HB.out⟩⟩
   case rest =>
    clear HC23
    try clear c1
    try clear p1
    try clear q1
    try clear hx1
    try clear qi1
    try clear c2
    try clear p2
    try clear c3
    try clear c3b0
    try clear c3b1
    try clear c5
    try clear c5b0
    try clear c5b1
    try clear p6
    try clear c8
    try clear c8b0
    try clear c9
    try clear c9b0
    try clear c10
    try clear p12
    try clear q12
    try clear hx12
    try clear qi12
    try clear p13
    try clear q13
    try clear hx13
    try clear c16
    try clear c22
    try clear c24
    try clear c24b0
    try clear hcz17_0
    try clear hcz17_1
    try clear hcz17_2
    try clear hcz17_3
    try clear hcz20_0
    try clear hcz20_1
    try clear hcz20_2
    try clear hcz20_3
    try clear hcz22_0
    try clear hcz22_1
    try clear hcz22_2
    try clear hcz22_3
    try clear hfz17_0
    try clear hfz17_1
    try clear hfz17_2
    try clear hfz17_3
    try clear hfz20_0
    try clear hfz20_1
    try clear hfz20_2
    try clear hfz20_3
    try clear hfz22_0
    try clear hfz22_1
    try clear hfz22_2
    try clear hfz22_3
    try clear hx124_0
    try clear hx129_0
    try clear hx132_0
    try clear p124
    try clear p129
    try clear p132
    try clear q124
    try clear q129
    try clear q132
    obtain ⟨kq, x43_22, rfl, HA, HJ22, HO_3, HO_129002, HO_129003, BK120, BK128, HB⟩ := hcut
    cases kq with
    | zero => exact absurd HA.out (by simp [spec_l18Read.j1])
    | succ kj22 =>
     have H := HA.out
     clear HA
     simp only [spec_l18Read.j1] at H
     by_cases c25 : x43_22 = true
     rotate_left
     ·replace c25 := Bool.eq_false_iff.mpr c25
      subst c25
      have H1 : (some (t130, t133, x129002_1, x129003_1)) = some (r1, r2, r3, r4) := by rw [if_neg (show ¬ (false = true) by decide)] at H; exact H
      clear H
      have H := H1
      clear H1
      simp only [Option.some.injEq, Prod.mk.injEq] at H
      obtain ⟨rfl, rfl, rfl, rfl⟩ := H
      have hnb60 := NB128_120.out
      have hnc60 := NB120_128.out
      obtain ⟨hcz61_0, hcz61_1, hcz61_2, hcz61_3, hfz61_0, hfz61_1, hfz61_2, hfz61_3⟩ := bk4 BK128.out
      obtain ⟨hcz62_0, hcz62_1, hcz62_2, hcz62_3, hfz62_0, hfz62_1, hfz62_2, hfz62_3⟩ := bk4 BK120.out
      obtain ⟨Ao63, co63, eo63⟩ := Kd.R_slice HO_129002.out
      subst eo63
      obtain ⟨Ao64, co64, eo64⟩ := Kd.R_slice HO_129003.out
      subst eo64
      go_wp2
      refine bodyPost_ret (results_cell_row rfl _ _ gb120 33 #[.int .i64 t130, .int .i64 t133, .slice Ao63 x129002_1.length co63, .slice Ao64 x129003_1.length co64] (0, 0) _ rfl (by (with_reducible repeat (first | refine blk_drewN ?_ _ | refine blk_drew ?_ | refine blk_alloc ?_ _)); refine blk_put (cs := #[.int .i64 t130, .int .i64 t133, .slice Ao63 x129002_1.length co63, .slice none 0 0]) ?_ 3 _ rfl; (with_reducible repeat (first | refine blk_drewN ?_ _ | refine blk_drew ?_ | refine blk_alloc ?_ _)); refine blk_put (cs := #[.int .i64 t130, .int .i64 t133, .slice none 0 0, .slice none 0 0]) ?_ 2 _ rfl; (with_reducible repeat (first | refine blk_drewN ?_ _ | refine blk_drew ?_ | refine blk_alloc ?_ _)); refine blk_put (cs := #[.int .i64 t130, .int .i64 0, .slice none 0 0, .slice none 0 0]) ?_ 1 _ rfl; (with_reducible repeat (first | refine blk_drewN ?_ _ | refine blk_drew ?_ | refine blk_alloc ?_ _)); refine blk_put (cs := #[.int .i64 0, .int .i64 0, .slice none 0 0, .slice none 0 0]) ?_ 0 _ rfl; (with_reducible repeat (first | refine blk_drewN ?_ _ | refine blk_drew ?_ | refine blk_alloc ?_ _)); exact BK120.out) Tryz.underlying33 rfl (by kernel_rfl)) rfl ?_
      exact ⟨_, _, by first | rfl | (simp [errW_none, errW_some] <;> rfl) | (simp only [← hji7]; first | rfl | (simp [errW_none, errW_some] <;> rfl)) | (simp [*, errW_none, errW_some] <;> rfl), by (with_reducible repeat (first | apply Kd.R_alloc | apply Kd.R_drewN | apply Kd.R_drew)); exact Kd.R_mono (Kd.R_far (p := ⟨gb120, 3, none⟩) (Kd.R_far (p := ⟨gb120, 2, none⟩) (Kd.R_far (p := ⟨gb120, 1, none⟩) (Kd.R_far (p := ⟨gb120, 0, none⟩) (Kd.R_types HO_129002.out BK120.out (by decide)) (fun _ hk => hk.2) (.int .i64 t130)) (fun _ hk => hk.2) (.int .i64 t133)) (fun _ hk => hk.2) (.slice Ao63 x129002_1.length co63)) (fun _ hk => hk.2) (.slice Ao64 x129003_1.length co64)) (fun _ hk => trivial), by (with_reducible repeat (first | apply Kd.R_alloc | apply Kd.R_drewN | apply Kd.R_drew)); exact Kd.R_mono (Kd.R_far (p := ⟨gb120, 3, none⟩) (Kd.R_far (p := ⟨gb120, 2, none⟩) (Kd.R_far (p := ⟨gb120, 1, none⟩) (Kd.R_far (p := ⟨gb120, 0, none⟩) (Kd.R_types HO_129003.out BK120.out (by decide)) (fun _ hk => hk.2) (.int .i64 t130)) (fun _ hk => hk.2) (.int .i64 t133)) (fun _ hk => hk.2) (.slice Ao63 x129002_1.length co63)) (fun _ hk => hk.2) (.slice Ao64 x129003_1.length co64)) (fun _ hk => trivial), BT HB.out⟩
     subst c25
     have H1 : (if 0 ≤ x6_1 then (if x6_1 < (t121.length : Int) then ((spec_l2Cut.f kj22 (rdOf ByteArray.empty t121 x6_1) 58).bind fun t136 => (if (t136.length : Int) = 2 then (if 0 < (t136.length : Int) then (spec_l18Read.j2 kj22 t121 x6_1 t136 (((rdOf ByteArray.empty t136 0).size : Int) != 2) t130 t133 x129002_1 x129003_1) else (none)) else (spec_l18Read.j2 kj22 t121 x6_1 t136 true t130 t133 x129002_1 x129003_1))) else (none)) else (none)) = some (r1, r2, r3, r4) := by rw [if_pos rfl] at H; exact H
     clear H
     have H := H1
     clear H1
     replace H := HI H
     obtain ⟨c26, H⟩ := H
     have c26b0 : decide (0 ≤ x6_1) = true := decide_eq_true c26
     clear c26
     replace H := HI H
     obtain ⟨c27, H⟩ := H
     have c27b0 : decide (x6_1 < (t121.length : Int)) = true := decide_eq_true c27
     clear c27
     replace H := Option.bind_eq_some_iff.mp H
     obtain ⟨t136, A280, H⟩ := H
     replace H : (if (t136.length : Int) = 2 then (if 0 < (t136.length : Int) then (spec_l18Read.j2 kj22 t121 x6_1 t136 (((rdOf ByteArray.empty t136 0).size : Int) != 2) t130 t133 x129002_1 x129003_1) else (none)) else (spec_l18Read.j2 kj22 t121 x6_1 t136 true t130 t133 x129002_1 x129003_1)) = some (r1, r2, r3, r4) := H
     have A28 := AM_ A280
     clear A280
     have HC29 := AM_ H
     clear H
     have p135 : 0 ≤ (x6_1 : Int) := DT
     have q135 : x6_1 < (t121.length : Int) := DT
     obtain ⟨ad135, e135, hx135_0⟩ := Kd.at_string (Kd.R_reads' HO_3.out).2.2 x6_1 p135 q135
     obtain rfl : ad124 = ad135 := (by injection e135)
     replace p135 := eq_true p135
     replace q135 := eq_true q135
     go_upto_region 10 with (first | ((with_reducible refine gate_callee (f := 9) rfl ?_); refine goesL_ (some 50) rfl rfl Tryz.func9 (by kernel_rfl) rfl #[.string (rdOf ByteArray.empty t121 x6_1), .int .u8 58] rfl (by (try simp only [List.map_toArray, List.map_cons, List.map_nil]); first | done | rfl | (simp only [List.length_drop, List.length_take]; rfl)) ?_; (with_reducible refine (spec_l2Cut.calls kj22 (rdOf ByteArray.empty t121 x6_1) 58 t136 _ A28.out).mono ?_); rintro e w30 ⟨v137, rfl, ho0, hb⟩; refine ⟨_, rfl, ?_⟩; replace HO_129002 := AM_ (Kd.R_below (RT HO_129002.out) hb); replace HO_129003 := AM_ (Kd.R_below (RT HO_129003.out) hb); have HO138 := AM_ (Kd.R_lower (Kd.R_new' ho0 (Kd.R_lt (RT HO_3.out))) (below_size (BT HB.out))); replace HO_3 := AM_ (Kd.R_elder' (RT HO_3.out) (Kd.R_base ho0) hb); replace BK120 := AM_ (BB BK120.out hb); replace BK128 := AM_ (BB BK128.out hb); replace HB := AM_ (below_step (BT HB.out) hb); (try clear hb); (try clear hb2); (try clear hk); (try clear hi); (try clear ho0)))
     (try simp only [pA, pS, pZ, pK])
     go_cut [60] (fun v60 wc => ∃ (kq : Nat) (x60_28 : Bool), v60 = .bool x60_28 ∧ Aside0 (spec_l18Read.j2 kq t121 x6_1 t136 x60_28 t130 t133 x129002_1 x129003_1 = some (r1, r2, r3, r4)) ∧ Aside0 (kq ≤ kj22) ∧ Aside0 (Kd.R Kd.string 9 wc w.heap.size (fun k_ => some k_ ≠ (v137 : Value).ownBlock) (.slice (some ad124) t121.length co13) t121) ∧ Aside0 (Kd.R Kd.string 9 wc w.heap.size (fun k_ => some k_ ≠ ((.slice (some ad124) t121.length co13) : Value).ownBlock) v137 t136) ∧ Aside0 (Kd.R k48 48 wc w.heap.size (fun _ => True) u129002 x129002_1) ∧ Aside0 (Kd.R k50 50 wc w.heap.size (fun _ => True) u129003 x129003_1) ∧ Aside0 (wc.heap[gb120]? = some (.cells #[.int .i64 0, .int .i64 0, (.slice none 0 0), (.slice none 0 0)] 33 (0, 0))) ∧ Aside0 (wc.heap[gb128]? = some (.cells #[.int .i64 t130, .int .i64 t133, u129002, u129003] 33 (0, 0))) ∧ Aside0 (Below w.heap.size w wc))
     case first =>
      have H := HC29.out
      clear HC29
      by_cases c31 : (t136.length : Int) = 2
      rotate_left
      ·rw [if_neg c31] at H
       have c31b0 : ((t136.length : Int) == 2) = false := beq_eq_false_iff_ne.mpr c31
       have c31b1 : ((t136.length : Int) != 2) = true := bne_iff_ne.mpr c31
       (first | rw [c31b0] | (simp only [i64_w, i32_w]; rw [c31b0]) | skip)
       have H' := AM_ H
       clear H
       obtain ⟨Ao34, co34, eo34⟩ := Kd.R_slice HO138.out
       subst eo34
       go_wp2
       go_meet
       case rel => exact ⟨_, (true), (by first | rfl | (simp; done) | (simp [*]; done)), H', ⟨by have := HK1.out; have := HJ22.out; first | omega | exact Nat.le_refl _⟩, ⟨by (with_reducible repeat (first | apply Kd.R_alloc | apply Kd.R_drewN | apply Kd.R_drew)); exact Kd.R_mono HO_3.out (fun _ hk => hk.2)⟩, ⟨by (with_reducible repeat (first | apply Kd.R_alloc | apply Kd.R_drewN | apply Kd.R_drew)); exact Kd.R_mono HO138.out (fun _ hk => hk.2)⟩, ⟨RT HO_129002.out⟩, ⟨RT HO_129003.out⟩, ⟨BH BK120.out⟩, ⟨BH BK128.out⟩, ⟨BT HB.out⟩⟩
      rw [if_pos c31] at H
      have c31b0 : ((t136.length : Int) == 2) = true := beq_iff_eq.mpr c31
      have c31b1 : ((t136.length : Int) != 2) = false := bne_eq_false_iff_eq.mpr c31
      clear c31
      (first | rw [c31b0] | (simp only [i64_w, i32_w]; rw [c31b0]) | skip)
      replace H := HI H
      obtain ⟨c32, H⟩ := H
      have c32b0 : decide (0 < (t136.length : Int)) = true := decide_eq_true c32
      have c32b1 : decide (0 < t136.length) = true := decide_eq_true (by omega)
      clear c32
      have H' := AM_ H
      clear H
      obtain ⟨Ao33, co33, eo33⟩ := Kd.R_slice HO138.out
      subst eo33
      have p139 : 0 ≤ (0 : Int) := (by omega)
      have q139 : 0 < (t136.length : Int) := DT
      obtain ⟨ad139, e139, hx139_0⟩ := Kd.at_string (Kd.R_reads' HO138.out).2.2 0 p139 q139
      cases e139
      have qi139 : (0 < t136.length) = True := eq_true (by omega)
      (try rw [show ((0 : Int)).toNat = 0 from rfl] at hx139_0)
      (try rw [Addr.add_zero'] at hx139_0)
      replace p139 := eq_true p139
      replace q139 := eq_true q139
      go_wp2
      go_meet
      case rel => exact ⟨_, ((((rdOf ByteArray.empty t136 0).size : Int) != 2)), (by first | rfl | (simp; done) | (simp [*]; done)), H', ⟨by have := HK1.out; have := HJ22.out; first | omega | exact Nat.le_refl _⟩, ⟨by (with_reducible repeat (first | apply Kd.R_alloc | apply Kd.R_drewN | apply Kd.R_drew)); exact Kd.R_mono HO_3.out (fun _ hk => hk.2)⟩, ⟨by (with_reducible repeat (first | apply Kd.R_alloc | apply Kd.R_drewN | apply Kd.R_drew)); exact Kd.R_mono HO138.out (fun _ hk => hk.2)⟩, ⟨RT HO_129002.out⟩, ⟨RT HO_129003.out⟩, ⟨BH BK120.out⟩, ⟨BH BK128.out⟩, ⟨BT HB.out⟩⟩
     case rest =>
      clear HC29
      try clear c1
      try clear p1
      try clear q1
      try clear hx1
      try clear qi1
      try clear c2
      try clear p2
      try clear c3
      try clear c3b0
      try clear c3b1
      try clear c5
      try clear c5b0
      try clear c5b1
      try clear p6
      try clear c8
      try clear c8b0
      try clear c9
      try clear c9b0
      try clear c10
      try clear p12
      try clear q12
      try clear hx12
      try clear qi12
      try clear p13
      try clear q13
      try clear hx13
      try clear qi13
      try clear c16
      try clear c22
      try clear c24
      try clear c24b0
      try clear c25
      try clear c26
      try clear c26b0
      try clear c27
      try clear c27b0
      try clear c31
      try clear c31b0
      try clear c31b1
      try clear c32
      try clear c32b0
      try clear c32b1
      try clear hcz17_0
      try clear hcz17_1
      try clear hcz17_2
      try clear hcz17_3
      try clear hcz20_0
      try clear hcz20_1
      try clear hcz20_2
      try clear hcz20_3
      try clear hcz22_0
      try clear hcz22_1
      try clear hcz22_2
      try clear hcz22_3
      try clear hfz17_0
      try clear hfz17_1
      try clear hfz17_2
      try clear hfz17_3
      try clear hfz20_0
      try clear hfz20_1
      try clear hfz20_2
      try clear hfz20_3
      try clear hfz22_0
      try clear hfz22_1
      try clear hfz22_2
      try clear hfz22_3
      try clear hx124_0
      try clear hx129_0
      try clear hx132_0
      try clear hx135_0
      try clear hx139_0
      try clear p124
      try clear p129
      try clear p132
      try clear p135
      try clear p139
      try clear q124
      try clear q129
      try clear q132
      try clear q135
      try clear q139
      obtain ⟨kq, x60_28, rfl, HA, HJ28, HO_3, HO_7, HO_129002, HO_129003, BK120, BK128, HB⟩ := hcut
      cases kq with
      | zero => exact absurd HA.out (by simp [spec_l18Read.j2])
      | succ kj28 =>
       have H := HA.out
       clear HA
       simp only [spec_l18Read.j2] at H
       by_cases c35 : x60_28 = true
       ·subst c35
        have H1 : (spec_l18Read.l0 kj28 t121 (wrap64 (x6_1 + 1)) t130 t133 x129002_1 x129003_1) = some (r1, r2, r3, r4) := by rw [if_pos rfl] at H; exact H
        clear H
        have H := H1
        clear H1
        have H' := AM_ H
        clear H
        go_wp2
        go_roundg kj28
        case measure => have := HK1.out; have := HJ22.out; have := HJ28.out; omega
        case rel => exact ⟨(wrap64 (x6_1 + 1)), (x129002_1), (x129003_1), (u129002), (u129003), (by first | rfl | (simp; done) | (simp [*]; done)), H', ⟨by have := HK1.out; have := HJ22.out; have := HJ28.out; omega⟩, ⟨by (with_reducible repeat (first | apply Kd.R_alloc | apply Kd.R_drewN | apply Kd.R_drew)); exact Kd.R_mono HO_3.out (fun _ hk => trivial)⟩, ⟨RT HO_129002.out⟩, ⟨RT HO_129003.out⟩, ⟨BH BK120.out⟩, ⟨BH BK128.out⟩, ⟨BT HB.out⟩⟩
       replace c35 := Bool.eq_false_iff.mpr c35
       subst c35
       have H1 : (if 0 < (t136.length : Int) then (if 1 < ((rdOf ByteArray.empty t136 0).size : Int) then (if 1 < (t136.length : Int) then ((spec_l3Number.f kj28 (rdOf ByteArray.empty t136 1)).bind fun t142 => (if 0 < ((rdOf ByteArray.empty t136 0).size : Int) then (if (bt (rdOf ByteArray.empty t136 0) 0) = 114 then (if x129002_1.length < 8796093022208 then (spec_l18Read.l0 kj28 t121 (wrap64 (x6_1 + 1)) t130 t133 (x129002_1 ++ [(⟨wrap64 ((wrap64 (bt (rdOf ByteArray.empty t136 0) 1)) - 48), t142⟩ : S48)]) x129003_1) else (none)) else (if x129003_1.length < 8796093022208 then (spec_l18Read.l0 kj28 t121 (wrap64 (x6_1 + 1)) t130 t133 x129002_1 (x129003_1 ++ [(⟨wrap64 ((wrap64 (bt (rdOf ByteArray.empty t136 0) 1)) - 48), t142⟩ : S50)])) else (none))) else (none))) else (none)) else (none)) else (none)) = some (r1, r2, r3, r4) := by rw [if_neg (show ¬ (false = true) by decide)] at H; exact H
       clear H
       have H := H1
       clear H1
       replace H := HI H
       obtain ⟨c36, H⟩ := H
       have c36b0 : decide (0 < (t136.length : Int)) = true := decide_eq_true c36
       have c36b1 : decide (0 < t136.length) = true := decide_eq_true (by omega)
       clear c36
       replace H := HI H
       obtain ⟨c37, H⟩ := H
       have c37b0 : decide (1 < ((rdOf ByteArray.empty t136 0).size : Int)) = true := decide_eq_true c37
       have c37b1 : decide (1 < (rdOf ByteArray.empty t136 0).size) = true := decide_eq_true (by omega)
       clear c37
       replace H := HI H
       obtain ⟨c39, H⟩ := H
       have c39b0 : decide (1 < (t136.length : Int)) = true := decide_eq_true c39
       have c39b1 : decide (1 < t136.length) = true := decide_eq_true (by omega)
       clear c39
       replace H := Option.bind_eq_some_iff.mp H
       obtain ⟨t142, A400, H⟩ := H
       replace H : (if 0 < ((rdOf ByteArray.empty t136 0).size : Int) then (if (bt (rdOf ByteArray.empty t136 0) 0) = 114 then (if x129002_1.length < 8796093022208 then (spec_l18Read.l0 kj28 t121 (wrap64 (x6_1 + 1)) t130 t133 (x129002_1 ++ [(⟨wrap64 ((wrap64 (bt (rdOf ByteArray.empty t136 0) 1)) - 48), t142⟩ : S48)]) x129003_1) else (none)) else (if x129003_1.length < 8796093022208 then (spec_l18Read.l0 kj28 t121 (wrap64 (x6_1 + 1)) t130 t133 x129002_1 (x129003_1 ++ [(⟨wrap64 ((wrap64 (bt (rdOf ByteArray.empty t136 0) 1)) - 48), t142⟩ : S50)])) else (none))) else (none)) = some (r1, r2, r3, r4) := H
       have A40 := AM_ A400
       clear A400
       replace H := HI H
       obtain ⟨c41, H⟩ := H
       have c41b0 : decide (0 < ((rdOf ByteArray.empty t136 0).size : Int)) = true := decide_eq_true c41
       have c41b1 : decide (0 < (rdOf ByteArray.empty t136 0).size) = true := decide_eq_true (by omega)
       clear c41
       by_cases c43 : (bt (rdOf ByteArray.empty t136 0) 0) = 114
       rotate_left
       ·rw [if_neg c43] at H
        have c43b0 : ((bt (rdOf ByteArray.empty t136 0) 0) == 114) = false := beq_eq_false_iff_ne.mpr c43
        have c43b1 : ((bt (rdOf ByteArray.empty t136 0) 0) != 114) = true := bne_iff_ne.mpr c43
        replace H := HI H
        obtain ⟨c52, H⟩ := H
        have LMc52 := AM_ c52
        clear c52
        obtain ⟨y147, hy147⟩ : ∃ y_ : List (S50), y_ = (x129003_1 ++ [(⟨wrap64 ((wrap64 (bt (rdOf ByteArray.empty t136 0) 1)) - 48), t142⟩ : S50)]) := ⟨_, rfl⟩
        replace H : (spec_l18Read.l0 kj28 t121 (wrap64 (x6_1 + 1)) t130 t133 x129002_1 y147) = some (r1, r2, r3, r4) := by first | (rw [hy147]; with_reducible exact H) | (have H2_ := (Option.bind_some _ _).symm.trans H; rw [hy147]; with_reducible exact H2_) | (have H2_ := (Option.bind_some _ _).symm.trans H; with_reducible exact H2_) | with_reducible exact H | (rw [hy147]; exact H) | exact H
        have Ny147 := AM_ hy147
        clear hy147
        have H' := AM_ H
        clear H
        obtain ⟨Ao53, co53, eo53⟩ := Kd.R_slice HO_7.out
        subst eo53
        have p140 : 0 ≤ (0 : Int) := (by omega)
        have q140 : 0 < (t136.length : Int) := DT
        obtain ⟨ad140, e140, hx140_0⟩ := Kd.at_string (Kd.R_reads' HO_7.out).2.2 0 p140 q140
        cases e140
        have qi140 : (0 < t136.length) = True := eq_true (by omega)
        (try rw [show ((0 : Int)).toNat = 0 from rfl] at hx140_0)
        (try rw [Addr.add_zero'] at hx140_0)
        replace p140 := eq_true p140
        replace q140 := eq_true q140
        have p38 : 0 ≤ (1 : Int) := (by omega)
        have q38 : 1 < (rdOf ByteArray.empty t136 0).size := (by have : (1 : Int) < ((rdOf ByteArray.empty t136 0).size : Int) := DT; omega)
        have hx38 : ∀ h : 1 < (rdOf ByteArray.empty t136 0).size, (((rdOf ByteArray.empty t136 0)[1]'h).toNat : Int) = bt (rdOf ByteArray.empty t136 0) 1 := bt_at (rdOf ByteArray.empty t136 0) 1
        clear p38
        have qi38 : (1 < ((rdOf ByteArray.empty t136 0).size : Int)) = True := eq_true (DT)
        replace q38 := eq_true q38
        have p141 : 0 ≤ (1 : Int) := (by omega)
        have q141 : 1 < (t136.length : Int) := DT
        obtain ⟨ad141, e141, hx141_0⟩ := Kd.at_string (Kd.R_reads' HO_7.out).2.2 1 p141 q141
        obtain rfl : ad140 = ad141 := (by injection e141)
        (try simp only [show (1 : Int).toNat = 1 from rfl, Nat.reduceMul, Nat.reduceEqDiff, Go.Addr.add, ↓reduceIte] at hx141_0)
        have qi141 : (1 < t136.length) = True := eq_true (by omega)
        (try rw [show ((1 : Int)).toNat = 1 from rfl] at hx141_0)
        replace p141 := eq_true p141
        replace q141 := eq_true q141
        go_wp2_with (first | ((with_reducible refine gate_callee (f := 23) rfl ?_); refine goesL_ (some 70) rfl rfl Tryz.func23 (by kernel_rfl) rfl #[.string (rdOf ByteArray.empty t136 1)] rfl (by (try simp only [List.map_toArray, List.map_cons, List.map_nil]); first | done | rfl | (simp only [List.length_drop, List.length_take]; rfl)) ?_; (with_reducible refine (spec_l3Number.calls kj28 (rdOf ByteArray.empty t136 1) t142 _ A40.out).mono ?_); rintro e w54 ⟨rfl, hb⟩; refine ⟨_, rfl, ?_⟩; replace HO_3 := AM_ (Kd.R_below (RT HO_3.out) hb); replace HO_7 := AM_ (Kd.R_below (RT HO_7.out) hb); replace HO_129002 := AM_ (Kd.R_below (RT HO_129002.out) hb); replace HO_129003 := AM_ (Kd.R_below (RT HO_129003.out) hb); replace BK120 := AM_ (BB BK120.out hb); replace BK128 := AM_ (BB BK128.out hb); replace HB := AM_ (below_step (BT HB.out) hb); (try clear hb); (try clear hb2); (try clear hk); (try clear hi); have p143 : 0 ≤ (0 : Int) := (by omega); have q143 : 0 < (t136.length : Int) := DT; obtain ⟨ad143, e143, hx143_0⟩ := Kd.at_string (Kd.R_reads' HO_7.out).2.2 0 p143 q143; obtain rfl : ad140 = ad143 := (by injection e143); have qi143 : (0 < t136.length) = True := eq_true (by omega); (try rw [show ((0 : Int)).toNat = 0 from rfl] at hx143_0); (try rw [Addr.add_zero'] at hx143_0); replace p143 := eq_true p143; replace q143 := eq_true q143; have p42 : 0 ≤ (0 : Int) := (by omega); have q42 : 0 < (rdOf ByteArray.empty t136 0).size := (by have : (0 : Int) < ((rdOf ByteArray.empty t136 0).size : Int) := DT; omega); have hx42 : ∀ h : 0 < (rdOf ByteArray.empty t136 0).size, (((rdOf ByteArray.empty t136 0)[0]'h).toNat : Int) = bt (rdOf ByteArray.empty t136 0) 0 := bt_at (rdOf ByteArray.empty t136 0) 0; clear p42; have qi42 : (0 < ((rdOf ByteArray.empty t136 0).size : Int)) = True := eq_true (DT); replace q42 := eq_true q42; have hnb55 := NB128_120.out; have hnc55 := NB120_128.out; obtain ⟨hcz56_0, hcz56_1, hcz56_2, hcz56_3, hfz56_0, hfz56_1, hfz56_2, hfz56_3⟩ := bk4 BK128.out) | ((with_reducible refine gate_builtin (b := .append) (xs := #[.tmp 85, .tmp 89]) rfl ?_); (try (refine gate_guard (by rfl) ?_; dsimp only)); at_builtin; refine Kd.R_append k50 (w0 := w) w.heap.size rfl (.tmp 85) (.tmp 89) 31 50 (.agg #[(.int .i64 0), (.int .i64 0)]) 16 rfl Tryz.underlying31 info50 rfl (by decide) (by omega) u129003 x129003_1 (⟨wrap64 ((wrap64 (bt (rdOf ByteArray.empty t136 0) 1)) - 48), t142⟩ : S50) [.int .i64 (wrap64 ((wrap64 (bt (rdOf ByteArray.empty t136 0) 1)) - 48)), .int .i64 t142] (fun _ => True) (fun _ => False) rfl rfl ?aP (fun _ hk => hk.elim) ?aF ?aO ?aB ?aS ?aL ?_; (case aP => exact k50_mkM _ _ _ (⟨wrap64 ((wrap64 (bt (rdOf ByteArray.empty t136 0) 1)) - 48), t142⟩ : S50)); (case aB => exact (BT HB.out)); (case aF => exact (fun _ _ => trivial)); (case aO => exact (RT HO_129003.out)); (case aS => exact (below_size (BT HB.out))); (case aL => have := LMc52.out; omega); intro v148 w57 ho hb hg hat; rw [← Ny147.out] at ho; have n0_ := AM_ (Kd.R_over' (RT HO_3.out) (Kd.R_typed (RT HO_129003.out)) (by decide) hg); have n1_ := AM_ (Kd.R_over' (RT HO_7.out) (Kd.R_typed (RT HO_129003.out)) (by decide) hg); have n2_ := AM_ (Kd.R_over' (RT HO_129002.out) (Kd.R_typed (RT HO_129003.out)) (by decide) hg); have n3_ := AM_ (blk_grown (g := gb120) (o := .cells #[.int .i64 0, .int .i64 0, .slice none 0 0, .slice none 0 0] 33 (0, 0)) (by (with_reducible repeat (first | refine blk_drewN ?_ _ | refine blk_drew ?_ | refine blk_alloc ?_ _)); exact BK120.out) hg (Kd.R_ne HO_129003.out BK120.out (by decide))); have n4_ := AM_ (blk_grown (g := gb128) (o := .cells #[.int .i64 t130, .int .i64 t133, u129002, u129003] 33 (0, 0)) (by (with_reducible repeat (first | refine blk_drewN ?_ _ | refine blk_drew ?_ | refine blk_alloc ?_ _)); exact BK128.out) hg (Kd.R_ne HO_129003.out BK128.out (by decide))); have n5_ := AM_ (hb); have n6_ := AM_ (ho); clear HO_3; clear HO_7; clear HO_129002; clear BK120; clear BK128; clear HB; clear HO_129003; have HO_3 := n0_; have HO_7 := n1_; have HO_129002 := n2_; have BK120 := n3_; have BK128 := n4_; have HB := n5_; have HO149 := n6_; clear n0_ n1_ n2_ n3_ n4_ n5_ n6_; clear ho hb hg hat; obtain ⟨Ao58, co58, eo58⟩ := Kd.R_slice HO149.out; subst eo58; obtain ⟨hcz59_0, hcz59_1, hcz59_2, hcz59_3, hfz59_0, hfz59_1, hfz59_2, hfz59_3⟩ := bk4 BK128.out))
        go_roundg kj28
        case measure => have := HK1.out; have := HJ22.out; have := HJ28.out; omega
        case rel => exact ⟨(wrap64 (x6_1 + 1)), (x129002_1), (y147), (u129002), (.slice Ao58 y147.length co58), (by first | rfl | (simp; done) | (simp [*]; done)), H', ⟨by have := HK1.out; have := HJ22.out; have := HJ28.out; omega⟩, ⟨by (with_reducible repeat (first | apply Kd.R_alloc | apply Kd.R_drewN | apply Kd.R_drew)); exact Kd.R_mono (Kd.R_far (p := ⟨gb128, 3, none⟩) (Kd.R_types HO_3.out BK128.out (by decide)) (fun _ hk => hk.2) (.slice Ao58 y147.length co58)) (fun _ hk => trivial)⟩, ⟨by (with_reducible repeat (first | apply Kd.R_alloc | apply Kd.R_drewN | apply Kd.R_drew)); exact Kd.R_mono (Kd.R_far (p := ⟨gb128, 3, none⟩) (Kd.R_types HO_129002.out BK128.out (by decide)) (fun _ hk => hk.2) (.slice Ao58 y147.length co58)) (fun _ hk => trivial)⟩, ⟨by (with_reducible repeat (first | apply Kd.R_alloc | apply Kd.R_drewN | apply Kd.R_drew)); exact Kd.R_mono (Kd.R_far (p := ⟨gb128, 3, none⟩) (Kd.R_types HO149.out BK128.out (by decide)) (fun _ hk => hk.2) (.slice Ao58 y147.length co58)) (fun _ hk => trivial)⟩, ⟨BG BK120.out NB120_128.out⟩, ⟨BQ BK128.out⟩, ⟨BT HB.out⟩⟩
       rw [if_pos c43] at H
       have c43b0 : ((bt (rdOf ByteArray.empty t136 0) 0) == 114) = true := beq_iff_eq.mpr c43
       have c43b1 : ((bt (rdOf ByteArray.empty t136 0) 0) != 114) = false := bne_eq_false_iff_eq.mpr c43
       clear c43
       replace H := HI H
       obtain ⟨c44, H⟩ := H
       have LMc44 := AM_ c44
       clear c44
       obtain ⟨y144, hy144⟩ : ∃ y_ : List (S48), y_ = (x129002_1 ++ [(⟨wrap64 ((wrap64 (bt (rdOf ByteArray.empty t136 0) 1)) - 48), t142⟩ : S48)]) := ⟨_, rfl⟩
       replace H : (spec_l18Read.l0 kj28 t121 (wrap64 (x6_1 + 1)) t130 t133 y144 x129003_1) = some (r1, r2, r3, r4) := by first | (rw [hy144]; with_reducible exact H) | (have H2_ := (Option.bind_some _ _).symm.trans H; rw [hy144]; with_reducible exact H2_) | (have H2_ := (Option.bind_some _ _).symm.trans H; with_reducible exact H2_) | with_reducible exact H | (rw [hy144]; exact H) | exact H
       have Ny144 := AM_ hy144
       clear hy144
       have H' := AM_ H
       clear H
       obtain ⟨Ao45, co45, eo45⟩ := Kd.R_slice HO_7.out
       subst eo45
       have p140 : 0 ≤ (0 : Int) := (by omega)
       have q140 : 0 < (t136.length : Int) := DT
       obtain ⟨ad140, e140, hx140_0⟩ := Kd.at_string (Kd.R_reads' HO_7.out).2.2 0 p140 q140
       cases e140
       have qi140 : (0 < t136.length) = True := eq_true (by omega)
       (try rw [show ((0 : Int)).toNat = 0 from rfl] at hx140_0)
       (try rw [Addr.add_zero'] at hx140_0)
       replace p140 := eq_true p140
       replace q140 := eq_true q140
       have p38 : 0 ≤ (1 : Int) := (by omega)
       have q38 : 1 < (rdOf ByteArray.empty t136 0).size := (by have : (1 : Int) < ((rdOf ByteArray.empty t136 0).size : Int) := DT; omega)
       have hx38 : ∀ h : 1 < (rdOf ByteArray.empty t136 0).size, (((rdOf ByteArray.empty t136 0)[1]'h).toNat : Int) = bt (rdOf ByteArray.empty t136 0) 1 := bt_at (rdOf ByteArray.empty t136 0) 1
       clear p38
       have qi38 : (1 < ((rdOf ByteArray.empty t136 0).size : Int)) = True := eq_true (DT)
       replace q38 := eq_true q38
       have p141 : 0 ≤ (1 : Int) := (by omega)
       have q141 : 1 < (t136.length : Int) := DT
       obtain ⟨ad141, e141, hx141_0⟩ := Kd.at_string (Kd.R_reads' HO_7.out).2.2 1 p141 q141
       obtain rfl : ad140 = ad141 := (by injection e141)
       (try simp only [show (1 : Int).toNat = 1 from rfl, Nat.reduceMul, Nat.reduceEqDiff, Go.Addr.add, ↓reduceIte] at hx141_0)
       have qi141 : (1 < t136.length) = True := eq_true (by omega)
       (try rw [show ((1 : Int)).toNat = 1 from rfl] at hx141_0)
       replace p141 := eq_true p141
       replace q141 := eq_true q141
       go_wp2_with (first | ((with_reducible refine gate_callee (f := 23) rfl ?_); refine goesL_ (some 70) rfl rfl Tryz.func23 (by kernel_rfl) rfl #[.string (rdOf ByteArray.empty t136 1)] rfl (by (try simp only [List.map_toArray, List.map_cons, List.map_nil]); first | done | rfl | (simp only [List.length_drop, List.length_take]; rfl)) ?_; (with_reducible refine (spec_l3Number.calls kj28 (rdOf ByteArray.empty t136 1) t142 _ A40.out).mono ?_); rintro e w46 ⟨rfl, hb⟩; refine ⟨_, rfl, ?_⟩; replace HO_3 := AM_ (Kd.R_below (RT HO_3.out) hb); replace HO_7 := AM_ (Kd.R_below (RT HO_7.out) hb); replace HO_129002 := AM_ (Kd.R_below (RT HO_129002.out) hb); replace HO_129003 := AM_ (Kd.R_below (RT HO_129003.out) hb); replace BK120 := AM_ (BB BK120.out hb); replace BK128 := AM_ (BB BK128.out hb); replace HB := AM_ (below_step (BT HB.out) hb); (try clear hb); (try clear hb2); (try clear hk); (try clear hi); have p143 : 0 ≤ (0 : Int) := (by omega); have q143 : 0 < (t136.length : Int) := DT; obtain ⟨ad143, e143, hx143_0⟩ := Kd.at_string (Kd.R_reads' HO_7.out).2.2 0 p143 q143; obtain rfl : ad140 = ad143 := (by injection e143); have qi143 : (0 < t136.length) = True := eq_true (by omega); (try rw [show ((0 : Int)).toNat = 0 from rfl] at hx143_0); (try rw [Addr.add_zero'] at hx143_0); replace p143 := eq_true p143; replace q143 := eq_true q143; have p42 : 0 ≤ (0 : Int) := (by omega); have q42 : 0 < (rdOf ByteArray.empty t136 0).size := (by have : (0 : Int) < ((rdOf ByteArray.empty t136 0).size : Int) := DT; omega); have hx42 : ∀ h : 0 < (rdOf ByteArray.empty t136 0).size, (((rdOf ByteArray.empty t136 0)[0]'h).toNat : Int) = bt (rdOf ByteArray.empty t136 0) 0 := bt_at (rdOf ByteArray.empty t136 0) 0; clear p42; have qi42 : (0 < ((rdOf ByteArray.empty t136 0).size : Int)) = True := eq_true (DT); replace q42 := eq_true q42; have hnb47 := NB128_120.out; have hnc47 := NB120_128.out; obtain ⟨hcz48_0, hcz48_1, hcz48_2, hcz48_3, hfz48_0, hfz48_1, hfz48_2, hfz48_3⟩ := bk4 BK128.out) | ((with_reducible refine gate_builtin (b := .append) (xs := #[.tmp 77, .tmp 81]) rfl ?_); (try (refine gate_guard (by rfl) ?_; dsimp only)); at_builtin; refine Kd.R_append k48 (w0 := w) w.heap.size rfl (.tmp 77) (.tmp 81) 30 48 (.agg #[(.int .i64 0), (.int .i64 0)]) 16 rfl Tryz.underlying30 info48 rfl (by decide) (by omega) u129002 x129002_1 (⟨wrap64 ((wrap64 (bt (rdOf ByteArray.empty t136 0) 1)) - 48), t142⟩ : S48) [.int .i64 (wrap64 ((wrap64 (bt (rdOf ByteArray.empty t136 0) 1)) - 48)), .int .i64 t142] (fun _ => True) (fun _ => False) rfl rfl ?aP (fun _ hk => hk.elim) ?aF ?aO ?aB ?aS ?aL ?_; (case aP => exact k48_mkM _ _ _ (⟨wrap64 ((wrap64 (bt (rdOf ByteArray.empty t136 0) 1)) - 48), t142⟩ : S48)); (case aB => exact (BT HB.out)); (case aF => exact (fun _ _ => trivial)); (case aO => exact (RT HO_129002.out)); (case aS => exact (below_size (BT HB.out))); (case aL => have := LMc44.out; omega); intro v145 w49 ho hb hg hat; rw [← Ny144.out] at ho; have n0_ := AM_ (Kd.R_over' (RT HO_3.out) (Kd.R_typed (RT HO_129002.out)) (by decide) hg); have n1_ := AM_ (Kd.R_over' (RT HO_7.out) (Kd.R_typed (RT HO_129002.out)) (by decide) hg); have n2_ := AM_ (Kd.R_over' (RT HO_129003.out) (Kd.R_typed (RT HO_129002.out)) (by decide) hg); have n3_ := AM_ (blk_grown (g := gb120) (o := .cells #[.int .i64 0, .int .i64 0, .slice none 0 0, .slice none 0 0] 33 (0, 0)) (by (with_reducible repeat (first | refine blk_drewN ?_ _ | refine blk_drew ?_ | refine blk_alloc ?_ _)); exact BK120.out) hg (Kd.R_ne HO_129002.out BK120.out (by decide))); have n4_ := AM_ (blk_grown (g := gb128) (o := .cells #[.int .i64 t130, .int .i64 t133, u129002, u129003] 33 (0, 0)) (by (with_reducible repeat (first | refine blk_drewN ?_ _ | refine blk_drew ?_ | refine blk_alloc ?_ _)); exact BK128.out) hg (Kd.R_ne HO_129002.out BK128.out (by decide))); have n5_ := AM_ (hb); have n6_ := AM_ (ho); clear HO_3; clear HO_7; clear HO_129003; clear BK120; clear BK128; clear HB; clear HO_129002; have HO_3 := n0_; have HO_7 := n1_; have HO_129003 := n2_; have BK120 := n3_; have BK128 := n4_; have HB := n5_; have HO146 := n6_; clear n0_ n1_ n2_ n3_ n4_ n5_ n6_; clear ho hb hg hat; obtain ⟨Ao50, co50, eo50⟩ := Kd.R_slice HO146.out; subst eo50; obtain ⟨hcz51_0, hcz51_1, hcz51_2, hcz51_3, hfz51_0, hfz51_1, hfz51_2, hfz51_3⟩ := bk4 BK128.out))
       go_roundg kj28
       case measure => have := HK1.out; have := HJ22.out; have := HJ28.out; omega
       case rel => exact ⟨(wrap64 (x6_1 + 1)), (y144), (x129003_1), (.slice Ao50 y144.length co50), (u129003), (by first | rfl | (simp; done) | (simp [*]; done)), H', ⟨by have := HK1.out; have := HJ22.out; have := HJ28.out; omega⟩, ⟨by (with_reducible repeat (first | apply Kd.R_alloc | apply Kd.R_drewN | apply Kd.R_drew)); exact Kd.R_mono (Kd.R_far (p := ⟨gb128, 2, none⟩) (Kd.R_types HO_3.out BK128.out (by decide)) (fun _ hk => hk.2) (.slice Ao50 y144.length co50)) (fun _ hk => trivial)⟩, ⟨by (with_reducible repeat (first | apply Kd.R_alloc | apply Kd.R_drewN | apply Kd.R_drew)); exact Kd.R_mono (Kd.R_far (p := ⟨gb128, 2, none⟩) (Kd.R_types HO146.out BK128.out (by decide)) (fun _ hk => hk.2) (.slice Ao50 y144.length co50)) (fun _ hk => trivial)⟩, ⟨by (with_reducible repeat (first | apply Kd.R_alloc | apply Kd.R_drewN | apply Kd.R_drew)); exact Kd.R_mono (Kd.R_far (p := ⟨gb128, 2, none⟩) (Kd.R_types HO_129003.out BK128.out (by decide)) (fun _ hk => hk.2) (.slice Ao50 y144.length co50)) (fun _ hk => trivial)⟩, ⟨BG BK120.out NB120_128.out⟩, ⟨BQ BK128.out⟩, ⟨BT HB.out⟩⟩

/-! ### spec_l1In: function 59 -/
def spec_l1In.f (a0 : Int) (a1 : Int) (a2 : Int) : Option (Bool) := if a0 ≥ a1 then (some (decide (a0 ≤ a2))) else (some false)
theorem spec_l1In.calls (a0 : Int) (a1 : Int) (a2 : Int) (r : Bool) (w : World) (h : spec_l1In.f a0 a1 a2 = some r) :
  Calls Tryz.prog 59 #[.int .i64 a0, .int .i64 a1, .int .i64 a2] w fun e w' => e = .returned (.bool r) ∧ Drawn0 w w' := by
 have H : (if a0 ≥ a1 then (some (decide (a0 ≤ a2))) else (some false)) = some r := h
 clear h
 by_cases c4 : a0 ≥ a1
 ·rw [if_pos c4] at H
  have c4b0 : decide (a1 ≤ a0) = true := decide_eq_true c4
  clear c4
  obtain rfl := Option.some.inj H
  go_enter Tryz.func59, Tryz.ntmps59
  go_wp2
  go_ret
  exact ⟨by first | rfl | (simp; done) | (simp [*]; done), by repeat (first | exact Drawn0.refl _ | apply Drawn0.step)⟩
 rw [if_neg c4] at H
 have c4b0 : decide (a1 ≤ a0) = false := decide_eq_false c4
 clear c4
 obtain rfl := Option.some.inj H
 go_enter Tryz.func59, Tryz.ntmps59
 go_wp2
 go_ret
 exact ⟨by first | rfl | (simp; done) | (simp [*]; done), by repeat (first | exact Drawn0.refl _ | apply Drawn0.step)⟩

/-! ### spec_l5Before: function 60 -/
def spec_l5Before.f (a0_0 : Int) (a0_1 : Int) (a1_0 : Int) (a1_1 : Int) : Option (Bool) := if a0_0 < a1_0 then (some true) else (if a0_0 = a1_0 then (some (decide (a0_1 < a1_1))) else (some false))
theorem spec_l5Before.calls (a0_0 : Int) (a0_1 : Int) (a1_0 : Int) (a1_1 : Int) (r : Bool) (w : World) (h : spec_l5Before.f a0_0 a0_1 a1_0 a1_1 = some r) :
  Calls Tryz.prog 60 #[.agg #[.int .i64 a0_0, .int .i64 a0_1], .agg #[.int .i64 a1_0, .int .i64 a1_1]] w fun e w' => e = .returned (.bool r) ∧ Below w.heap.size w w' := by
 have hu48 := Tryz.underlying48
 have HB := AM_ (Below.refl w.heap.size w)
 have H : (if a0_0 < a1_0 then (some true) else (if a0_0 = a1_0 then (some (decide (a0_1 < a1_1))) else (some false))) = some r := h
 clear h
 by_cases c3 : a0_0 < a1_0
 ·rw [if_pos c3] at H
  have c3b0 : decide (a0_0 < a1_0) = true := decide_eq_true c3
  clear c3
  obtain rfl := Option.some.inj H
  go_enter Tryz.func60, Tryz.ntmps60
  go_wp2_with (first | ((with_reducible refine gate_dst (N := 2) rfl ?_); refine box_event ?hg (N := 2) ?hd (cs := #[.int .i64 a0_0, .int .i64 a0_1]) (t := 48) ?hr ?_; (case hd => rfl); (case hg => rfl); (case hr => first | (go_simp; done) | (go_simp; rfl)); intro gb150 hg w4 hbox hb; have BK150 := AM_ (hbox); have GW150 := AM_ ((GS HB.out hg)); have GE150 := AM_ ((GS HB.out hg)); replace HB := AM_ (below_step (BT HB.out) hb); clear hb hbox hg) | ((with_reducible refine gate_dst (N := 3) rfl ?_); refine box_event ?hg (N := 3) ?hd (cs := #[.int .i64 a1_0, .int .i64 a1_1]) (t := 48) ?hr ?_; (case hd => rfl); (case hg => rfl); (case hr => first | (go_simp; done) | (go_simp; rfl)); intro gb151 hg w5 hbox hb; have BK151 := AM_ (hbox); have GW151 := AM_ ((GS HB.out hg)); have GE151 := AM_ ((GS HB.out hg)); replace HB := AM_ (below_step (BT HB.out) hb); have NB150_151 := AM_ ((NL BK150.out hg)); have NB151_150 := AM_ ((NG BK150.out hg)); replace BK150 := AM_ (BB BK150.out hb); clear hb hbox hg; have hnb6 := NB150_151.out; have hnc6 := NB151_150.out; obtain ⟨hcz7_0, hcz7_1, hfz7_0, hfz7_1⟩ := bk2 BK150.out; obtain ⟨hcz8_0, hcz8_1, hfz8_0, hfz8_1⟩ := bk2 BK151.out))
  go_ret
  exact QT (BT HB.out)
 rw [if_neg c3] at H
 have c3b0 : decide (a0_0 < a1_0) = false := decide_eq_false c3
 clear c3
 by_cases c9 : a0_0 = a1_0
 rotate_left
 ·rw [if_neg c9] at H
  have c9b0 : (a0_0 == a1_0) = false := beq_eq_false_iff_ne.mpr c9
  have c9b1 : (a0_0 != a1_0) = true := bne_iff_ne.mpr c9
  obtain rfl := Option.some.inj H
  go_enter Tryz.func60, Tryz.ntmps60
  go_wp2_with (first | ((with_reducible refine gate_dst (N := 2) rfl ?_); refine box_event ?hg (N := 2) ?hd (cs := #[.int .i64 a0_0, .int .i64 a0_1]) (t := 48) ?hr ?_; (case hd => rfl); (case hg => rfl); (case hr => first | (go_simp; done) | (go_simp; rfl)); intro gb150 hg w15 hbox hb; have BK150 := AM_ (hbox); have GW150 := AM_ ((GS HB.out hg)); have GE150 := AM_ ((GS HB.out hg)); replace HB := AM_ (below_step (BT HB.out) hb); clear hb hbox hg) | ((with_reducible refine gate_dst (N := 3) rfl ?_); refine box_event ?hg (N := 3) ?hd (cs := #[.int .i64 a1_0, .int .i64 a1_1]) (t := 48) ?hr ?_; (case hd => rfl); (case hg => rfl); (case hr => first | (go_simp; done) | (go_simp; rfl)); intro gb151 hg w16 hbox hb; have BK151 := AM_ (hbox); have GW151 := AM_ ((GS HB.out hg)); have GE151 := AM_ ((GS HB.out hg)); replace HB := AM_ (below_step (BT HB.out) hb); have NB150_151 := AM_ ((NL BK150.out hg)); have NB151_150 := AM_ ((NG BK150.out hg)); replace BK150 := AM_ (BB BK150.out hb); clear hb hbox hg; have hnb17 := NB150_151.out; have hnc17 := NB151_150.out; obtain ⟨hcz18_0, hcz18_1, hfz18_0, hfz18_1⟩ := bk2 BK150.out; obtain ⟨hcz19_0, hcz19_1, hfz19_0, hfz19_1⟩ := bk2 BK151.out))
  go_ret
  exact QT (BT HB.out)
 rw [if_pos c9] at H
 have c9b0 : (a0_0 == a1_0) = true := beq_iff_eq.mpr c9
 have c9b1 : (a0_0 != a1_0) = false := bne_eq_false_iff_eq.mpr c9
 clear c9
 obtain rfl := Option.some.inj H
 go_enter Tryz.func60, Tryz.ntmps60
 go_wp2_with (first | ((with_reducible refine gate_dst (N := 2) rfl ?_); refine box_event ?hg (N := 2) ?hd (cs := #[.int .i64 a0_0, .int .i64 a0_1]) (t := 48) ?hr ?_; (case hd => rfl); (case hg => rfl); (case hr => first | (go_simp; done) | (go_simp; rfl)); intro gb150 hg w10 hbox hb; have BK150 := AM_ (hbox); have GW150 := AM_ ((GS HB.out hg)); have GE150 := AM_ ((GS HB.out hg)); replace HB := AM_ (below_step (BT HB.out) hb); clear hb hbox hg) | ((with_reducible refine gate_dst (N := 3) rfl ?_); refine box_event ?hg (N := 3) ?hd (cs := #[.int .i64 a1_0, .int .i64 a1_1]) (t := 48) ?hr ?_; (case hd => rfl); (case hg => rfl); (case hr => first | (go_simp; done) | (go_simp; rfl)); intro gb151 hg w11 hbox hb; have BK151 := AM_ (hbox); have GW151 := AM_ ((GS HB.out hg)); have GE151 := AM_ ((GS HB.out hg)); replace HB := AM_ (below_step (BT HB.out) hb); have NB150_151 := AM_ ((NL BK150.out hg)); have NB151_150 := AM_ ((NG BK150.out hg)); replace BK150 := AM_ (BB BK150.out hb); clear hb hbox hg; have hnb12 := NB150_151.out; have hnc12 := NB151_150.out; obtain ⟨hcz13_0, hcz13_1, hfz13_0, hfz13_1⟩ := bk2 BK150.out; obtain ⟨hcz14_0, hcz14_1, hfz14_0, hfz14_1⟩ := bk2 BK151.out))
 go_ret
 exact QT (BT HB.out)

end Go.Proofs.YtdfbmaiboadodaaGreatDoor.PFnExactParseHistory
