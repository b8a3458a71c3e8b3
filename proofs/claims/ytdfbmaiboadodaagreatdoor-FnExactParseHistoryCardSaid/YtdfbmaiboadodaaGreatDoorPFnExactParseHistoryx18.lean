-- Printed by wip/myprint.py.
import Derived.Test.YtdfbmaiboadodaaGreatDoorPFnExactParseHistoryx17
namespace Go.Proofs.YtdfbmaiboadodaaGreatDoor.PFnExactParseHistory
open Go.RowKit Go.Proofs.YtdfbmaiboadodaaGreatDoorW.PrintWords Go.Proofs.YtdfbmaiboadodaaGreatDoorW.PrintLast Go.Proofs.YtdfbmaiboadodaaGreatDoorW.PrintMore
set_option maxHeartbeats 8000000
set_option maxRecDepth 100000
set_option linter.unusedVariables false
set_option linter.unusedSimpArgs false

/-! ### laws_markEntryS: function 7 -/
/-- One cell of an element is written: what is there, and the row then. -/
theorem laws_markEntryS_put {α : Type} {d : Kd α} {e g n cap : Nat} {W : World} {base : Nat} {ok : Nat → Prop} {xs : List α} (z : α) (i : Int) (j : Nat) (u : Value) (x' : α) (h : Kd.S d e W base ok (.slice (some ⟨g, 0, none⟩) n cap) xs) (h0 : 0 ≤ i) (h1 : i < n) (hj : j + 1 ≤ d.sz) (hu : u.oneCell' = true)
  (hM : ∀ (w1 : World) (oki : Nat → Prop) c, d.M w1 base oki (xs.getD i.toNat z) c → d.M w1 base oki x' (c.take j ++ [u] ++ c.drop (j + 1))) :
  (∀ j', W.frozen? ⟨g, i.toNat * d.sz + j', none⟩ = false) ∧ (∃ (oki : Nat → Prop) (c : List Value), d.M W base oki (xs.getD i.toNat z) c ∧ ∀ j' u', c[j']? = some u' → W.cell? ⟨g, i.toNat * d.sz + j', none⟩ = some u') ∧
  Kd.S d e (W.setCell ⟨g, i.toNat * d.sz + j, none⟩ u) base ok (.slice (some ⟨g, 0, none⟩) n cap) (xs.set i.toNat x') ∧ W.grownBy (W.setCell ⟨g, i.toNat * d.sz + j, none⟩ u) (some g) := by
 obtain ⟨oki, c, hcl, hMi, hcc, hfr, hoki, hH⟩ := Kd.S_elem h z i h0 h1
 obtain ⟨h2, h3⟩ := Kd.H_seg hH h0 h1 (seg := [u]) (j := j) hj (fun q hq => by rw [List.mem_singleton.1 hq]; exact hu)
 have h3' : W.grownBy (W.setCell ⟨g, i.toNat * d.sz + j, none⟩ u) (some g) := h3
 have hM1 : d.M (W.setCell ⟨g, i.toNat * d.sz + j, none⟩ u) base oki (xs.getD i.toNat z) c := Kd.M_step hMi (fun k hk hlt => h3'.block k hlt (fun he => (hoki k hk).2 (by injection he)))
 exact ⟨hfr, ⟨oki, c, hMi, hcc⟩, Kd.H_back h2 (hM _ _ _ hM1) (fun _ hk => hk), h3'⟩
def laws_markEntryS.l0 : Nat → List (S33) → Int → Int → Option (Int × List (S33))
 | 0, _, _, _ => none
 | k + 1, x0, x1, x5 => if x5 < (x0.length : Int) then (if 0 ≤ x5 then ((laws_markReadMarkS.f k (rd_T33 x0 x5).f2 (wrap64 ((wrap64 (x1 + 1)) + 1))).bind fun b => (laws_markWriteS.f k (rd_T33 x0 x5).f3 b.1).bind fun c => (laws_markEntryS.l0 k (x0.set (x5 : Int).toNat (⟨x1, wrap64 (x1 + 1), b.2, c.2⟩ : S33)) c.1 (wrap64 (x5 + 1)))) else (none)) else (some (x1, x0))
def laws_markEntryS.f (k : Nat) (l0 : List (S33)) (a1 : Int) : Option (Int × List (S33)) := laws_markEntryS.l0 k l0 a1 0
theorem laws_markEntryS.mono_l : ∀ k, (∀ y0 y1 y2, LeO (laws_markEntryS.l0 k y0 y1 y2) (laws_markEntryS.l0 (k + 1) y0 y1 y2))
 | 0 => fun _ _ _ r h => by simp [laws_markEntryS.l0] at h
 | k + 1 => by
  have ih0 := laws_markEntryS.mono_l k
  ·intro y0 y1 y2
   unfold laws_markEntryS.l0
   repeat' first
   | (with_reducible exact ih0 _ _ _)
   | (with_reducible exact laws_markReadMarkS.mono _ _ _)
   | (with_reducible exact laws_markWriteS.mono _ _ _)
   | (with_reducible first | exact LeO.refl _ | exact LeO.none _ | refine LeO.ite ?_ ?_ | refine LeO.bind ?_ (fun _ => ?_))
   | exact ih0 _ _ _
   | exact laws_markReadMarkS.mono _ _ _
   | exact laws_markWriteS.mono _ _ _
   | exact LeO.none _ | refine LeO.ite ?_ ?_ | refine LeO.bind ?_ (fun _ => ?_)
theorem laws_markEntryS.mono : ∀ a0 a1 k, LeO (laws_markEntryS.f k a0 a1) (laws_markEntryS.f (k + 1) a0 a1) := by
 intro a0 a1 k
 unfold laws_markEntryS.f
 exact laws_markEntryS.mono_l k _ _ _
theorem laws_markEntryS.calls (k : Nat) (P0_ : Nat → Prop) (u9000_ : Value) (l0 : List (S33)) (a1 : Int) (r1 : Int) (r2 : List (S33)) (w0 w : World) (hB : Below w0.heap.size w0 w) (ho0 : Kd.S k33 33 w w0.heap.size P0_ u9000_ l0) (h : laws_markEntryS.f k l0 a1 = some (r1, r2)) :
  Calls Tryz.prog 7 #[u9000_, .int .i64 a1] w fun e w' => e = .returned (.int .i64 r1) ∧ Kd.S k33 33 w' w0.heap.size P0_ u9000_ r2 ∧ Below w0.heap.size w0 w' ∧ Kept w w' (fun k_ => P0_ k_) := by
 have HO0 := AM_ ho0
 have HK := AM_ (Kept.refl w (fun k_ => P0_ k_))
 have HB := AM_ hB
 clear hB ho0
 have H : (laws_markEntryS.l0 k l0 a1 0) = some (r1, r2) := h
 clear h
 have H' := AM_ H
 clear H
 go_enter Tryz.func7, Tryz.ntmps7
 go_wp2
 go_loopg [1, 5] k (fun kq v1 v5 w' => ∃ (x0_1 : List (S33)) (x1_1 : Int) (x5_1 : Int), v1 = .int .i64 x1_1 ∧ v5 = .int .i64 x5_1 ∧ Aside0 (laws_markEntryS.l0 kq x0_1 x1_1 x5_1 = some (r1, r2)) ∧ Aside0 (kq ≤ k) ∧ Aside0 (Kd.S k33 33 w' w0.heap.size P0_ u9000_ x0_1) ∧ Aside0 (Kept w w' (fun k_ => P0_ k_)) ∧ Aside0 (Below w0.heap.size w0 w'))
 case atStart => exact ⟨(l0), (a1), (0), (by first | rfl | (simp; done) | (simp [*]; done)), (by first | rfl | (simp; done) | (simp [*]; done)), H', ⟨Nat.le_refl _⟩, ⟨ST HO0.out⟩, ⟨(by repeat (first | (with_reducible first | exact HK.out | apply Kept.alloc | apply Kept.drewN | apply Kept.drew) | exact HK.out))⟩, ⟨(BT HB.out)⟩⟩
 case round =>
  clear H' HO0 HK HB
  obtain ⟨x0_1, x1_1, x5_1, rfl, rfl, HA, HK1, HO_0, HK, HB⟩ := hrel
  cases gk with
  | zero => exact absurd HA.out (by simp [laws_markEntryS.l0])
  | succ k1 =>
   have H := HA.out
   clear HA
   simp only [laws_markEntryS.l0] at H
   by_cases c3 : x5_1 < (x0_1.length : Int)
   rotate_left
   ·rw [if_neg c3] at H
    have c3b0 : decide (x5_1 < (x0_1.length : Int)) = false := decide_eq_false c3
    clear c3
    simp only [Option.some.injEq, Prod.mk.injEq] at H
    obtain ⟨rfl, rfl⟩ := H
    obtain ⟨Ao24, co24, eo24⟩ := Kd.S_slice HO_0.out
    subst eo24
    go_wp2
    go_ret
    exact ⟨by first | rfl | (simp [errW_none, errW_some] <;> rfl) | (simp [*, errW_none, errW_some] <;> rfl), (ST HO_0.out), (BT HB.out), (by repeat (first | (with_reducible first | exact HK.out | apply Kept.alloc | apply Kept.drewN | apply Kept.drew) | exact HK.out))⟩
   rw [if_pos c3] at H
   have c3b0 : decide (x5_1 < (x0_1.length : Int)) = true := decide_eq_true c3
   replace H := HI H
   obtain ⟨c4, H⟩ := H
   have c4b0 : decide (0 ≤ x5_1) = true := decide_eq_true c4
   replace H := Option.bind_eq_some_iff.mp H
   obtain ⟨⟨t1, t2⟩, A70, H⟩ := H
   replace H := Option.bind_eq_some_iff.mp H
   obtain ⟨⟨t3, t4⟩, A80, H⟩ := H
   replace H : (laws_markEntryS.l0 k1 (x0_1.set (x5_1 : Int).toNat (⟨x1_1, wrap64 (x1_1 + 1), t2, t4⟩ : S33)) t3 (wrap64 (x5_1 + 1))) = some (r1, r2) := H
   have A7 := AM_ A70
   have A8 := AM_ A80
   clear A70 A80
   have H' := AM_ H
   clear H
   have C3 := AM_ c3
   have C4 := AM_ c4
   clear c3 c4
   obtain ⟨Ao11, co11, eo11⟩ := Kd.S_slice HO_0.out
   subst eo11
   obtain ⟨go5, co5, eo5, gb5, gl5, cl5, HG5⟩ := Kd.S_form HO_0.out (by have := C3.out; have := C4.out; omega)
   (first | cases eo5 | (injection eo5 with ea_ en_ ec_; (first | subst ea_ | (injection ea_ with ea_; subst ea_)); subst ec_; clear en_))
   have GB5 := AM_ gb5
   clear gb5 gl5 HG5
   have HGO := AM_ (show (P0_ go5 ∨ w.heap.size ≤ go5) from .inl ((Kd.S_R HO_0.out).1 _ rfl))
   have HGET : ∀ e_ : S33, Aside0 ((x0_1.set (x5_1 : Int).toNat e_).getD (x5_1 : Int).toNat z33 = e_) := fun e_ => ⟨by rw [List.getD_eq_getElem?_getD, List.getElem?_set_self (by have := C3.out; have := C4.out; omega)]; rfl⟩
   have hp0 := laws_markEntryS_put z33 x5_1 0 (.int .i64 (x1_1)) (⟨x1_1, (rd_T33 x0_1 x5_1).f1, (rd_T33 x0_1 x5_1).f2, (rd_T33 x0_1 x5_1).f3⟩ : S33) (show Kd.S k33 33 wr w0.heap.size P0_ (.slice (some ⟨go5, 0, none⟩) x0_1.length co11) x0_1 from (ST HO_0.out)) C4.out C3.out (show 1 ≤ 4 from by decide) rfl (by intro w1_ oki_ c_ hm_; obtain ⟨v7, v8, rfl, g7, g8⟩ := k33_openM hm_; exact k33_mkM w1_ _ _ (⟨x1_1, (rd_T33 x0_1 x5_1).f1, (rd_T33 x0_1 x5_1).f2, (rd_T33 x0_1 x5_1).f3⟩ : S33) g7 g8)
   obtain ⟨hfr0, ⟨oki0, ce0, hM0, hcc0⟩, HP0⟩ := hp0
   obtain ⟨v70, v80, rfl, _, _⟩ := k33_openM hM0
   have hx0 : wr.cell? ⟨go5, (x5_1 : Int).toNat * 4, none⟩ = some (.int .i64 ((rd_T33 x0_1 x5_1).f0)) := hcc0 0 _ rfl
   have hf0 : wr.frozen? ⟨go5, (x5_1 : Int).toNat * 4, none⟩ = false := hfr0 0
   have p5 : 0 ≤ (x5_1 : Int) := C4.out; have q5 : (x5_1 : Int) < ((x0_1.length : Int) : Int) := C3.out; replace p5 := eq_true p5; replace q5 := eq_true q5
   clear hfr0 hcc0 hM0
   go_wp2_with (first | ((with_reducible refine gate_store (t := 3) (p := 16) rfl ?_); refine store_event (t := 3) (p := 16) (v := ?vo_w20) (w1 := (wr.setCell ⟨go5, (x5_1 : Int).toNat * 4, none⟩ (.int .i64 (x1_1)))) ?hg ?ho ?hn ?hr ?_; (case ho => rfl); (case hg => rfl); (case hn => rfl); (case hr => first | (go_simp; done) | (go_simp; rfl)); intro w20 hw; have hg : wr.grownBy w20 (some go5) := (by rw [hw]; exact HP0.2); have hp_ : Kd.S k33 33 w20 w0.heap.size P0_ (.slice (some ⟨go5, 0, none⟩) x0_1.length co11) (x0_1.set (x5_1 : Int).toNat (⟨x1_1, (rd_T33 x0_1 x5_1).f1, (rd_T33 x0_1 x5_1).f2, (rd_T33 x0_1 x5_1).f3⟩ : S33)) := (by rw [hw]; have h_ := HP0.1; exact h_); clear HP0 hx0 hf0 p5 q5; replace HO_0 := AM_ hp_; replace HB := AM_ ((by rw [hw]; exact below_set (HB.out) GB5.out : Below w0.heap.size w0 w20)); replace HK := AM_ (Kept.of_grown (S := (fun k_ => P0_ k_)) hg (by repeat (first | (with_reducible first | exact HK.out | apply Kept.alloc | apply Kept.drewN | apply Kept.drew) | exact HK.out)) (fun k_ e_ => by injection e_ with e_; subst e_; exact HGO.out)); clear hg hw hp_; have hp1 := laws_markEntryS_put z33 x5_1 1 (.int .i64 (wrap64 (x1_1 + 1))) (⟨x1_1, wrap64 (x1_1 + 1), (rd_T33 x0_1 x5_1).f2, (rd_T33 x0_1 x5_1).f3⟩ : S33) (show Kd.S k33 33 w20 w0.heap.size P0_ (.slice (some ⟨go5, 0, none⟩) x0_1.length co11) (x0_1.set (x5_1 : Int).toNat (⟨x1_1, (rd_T33 x0_1 x5_1).f1, (rd_T33 x0_1 x5_1).f2, (rd_T33 x0_1 x5_1).f3⟩ : S33)) from (ST HO_0.out)) C4.out C3.out (show 2 ≤ 4 from by decide) rfl (by intro w1_ oki_ c_ hm_; obtain ⟨v7, v8, rfl, g7, g8⟩ := k33_openM hm_; simp only [(HGET (⟨x1_1, (rd_T33 x0_1 x5_1).f1, (rd_T33 x0_1 x5_1).f2, (rd_T33 x0_1 x5_1).f3⟩ : S33)).out] at g7 g8 ⊢; exact k33_mkM w1_ _ _ (⟨x1_1, wrap64 (x1_1 + 1), (rd_T33 x0_1 x5_1).f2, (rd_T33 x0_1 x5_1).f3⟩ : S33) g7 g8); obtain ⟨hfr1, ⟨oki1, ce1, hM1, hcc1⟩, HP1⟩ := hp1; rw [(HGET (⟨x1_1, (rd_T33 x0_1 x5_1).f1, (rd_T33 x0_1 x5_1).f2, (rd_T33 x0_1 x5_1).f3⟩ : S33)).out] at hM1; obtain ⟨v71, v81, rfl, _, _⟩ := k33_openM hM1; have hx1 : w20.cell? ⟨go5, (x5_1 : Int).toNat * 4 + 1, none⟩ = some (.int .i64 ((rd_T33 x0_1 x5_1).f1)) := hcc1 1 _ rfl; have hf1 : w20.frozen? ⟨go5, (x5_1 : Int).toNat * 4 + 1, none⟩ = false := hfr1 1; have p5 : 0 ≤ (x5_1 : Int) := C4.out; have q5 : (x5_1 : Int) < ((x0_1.length : Int) : Int) := C3.out; replace p5 := eq_true p5; replace q5 := eq_true q5; clear hfr1 hcc1 hM1) | ((with_reducible refine gate_store (t := 3) (p := 23) rfl ?_); refine store_event (t := 3) (p := 23) (v := ?vo_w21) (w1 := (w20.setCell ⟨go5, (x5_1 : Int).toNat * 4 + 1, none⟩ (.int .i64 (wrap64 (x1_1 + 1))))) ?hg ?ho ?hn ?hr ?_; (case ho => rfl); (case hg => rfl); (case hn => rfl); (case hr => first | (go_simp; done) | (go_simp; rfl)); intro w21 hw; have hg : w20.grownBy w21 (some go5) := (by rw [hw]; exact HP1.2); have hp_ : Kd.S k33 33 w21 w0.heap.size P0_ (.slice (some ⟨go5, 0, none⟩) x0_1.length co11) (x0_1.set (x5_1 : Int).toNat (⟨x1_1, wrap64 (x1_1 + 1), (rd_T33 x0_1 x5_1).f2, (rd_T33 x0_1 x5_1).f3⟩ : S33)) := (by rw [hw]; have h_ := HP1.1; rw [List.set_set] at h_; exact h_); clear HP1 hx1 hf1 p5 q5; replace HO_0 := AM_ hp_; replace HB := AM_ ((by rw [hw]; exact below_set (HB.out) GB5.out : Below w0.heap.size w0 w21)); replace HK := AM_ (Kept.of_grown (S := (fun k_ => P0_ k_)) hg (by repeat (first | (with_reducible first | exact HK.out | apply Kept.alloc | apply Kept.drewN | apply Kept.drew) | exact HK.out)) (fun k_ e_ => by injection e_ with e_; subst e_; exact HGO.out)); clear hg hw hp_; obtain ⟨oki, ce, _, hM, hcc, hoki, hH⟩ := Kd.S_lend (show Kd.S k33 33 w21 w0.heap.size P0_ (.slice (some ⟨go5, 0, none⟩) x0_1.length co11) (x0_1.set (x5_1 : Int).toNat (⟨x1_1, wrap64 (x1_1 + 1), (rd_T33 x0_1 x5_1).f2, (rd_T33 x0_1 x5_1).f3⟩ : S33)) from (ST HO_0.out)) z33 (x5_1 : Int) C4.out C3.out; rw [(HGET (⟨x1_1, wrap64 (x1_1 + 1), (rd_T33 x0_1 x5_1).f2, (rd_T33 x0_1 x5_1).f3⟩ : S33)).out] at hM; obtain ⟨v7, v8, rfl, h7, h8⟩ := k33_openM hM; obtain ⟨Av, cv, ev⟩ := Kd.R_slice h7; subst ev; have hx : w21.cell? ⟨go5, (x5_1 : Int).toNat * 4 + 2, none⟩ = some (.slice Av (⟨x1_1, wrap64 (x1_1 + 1), (rd_T33 x0_1 x5_1).f2, (rd_T33 x0_1 x5_1).f3⟩ : S33).f2.length cv) := hcc 2 _ rfl; have HH := AM_ hH; have HI := AM_ hoki; have H7 := AM_ h7; have H8 := AM_ h8; clear hcc hM hH hoki h7 h8; have p5 : 0 ≤ (x5_1 : Int) := C4.out; have q5 : (x5_1 : Int) < ((x0_1.length : Int) : Int) := C3.out; replace p5 := eq_true p5; replace q5 := eq_true q5) | (go_at_call 18; (with_reducible refine (laws_markReadMarkS.calls k1 (fun k_ => some k_ = ((.slice Av (⟨x1_1, wrap64 (x1_1 + 1), (rd_T33 x0_1 x5_1).f2, (rd_T33 x0_1 x5_1).f3⟩ : S33).f2.length cv) : Value).ownBlock) (.slice Av (⟨x1_1, wrap64 (x1_1 + 1), (rd_T33 x0_1 x5_1).f2, (rd_T33 x0_1 x5_1).f3⟩ : S33).f2.length cv) (⟨x1_1, wrap64 (x1_1 + 1), (rd_T33 x0_1 x5_1).f2, (rd_T33 x0_1 x5_1).f3⟩ : S33).f2 (wrap64 ((wrap64 (x1_1 + 1)) + 1)) t1 t2 w0 _ ?side1 ?side2 A7.out).mono ?_); (case side1 => exact (BT HB.out)); (case side2 => (with_reducible repeat (first | apply Kd.R_alloc | apply Kd.R_drewN | apply Kd.R_drew)); exact Kd.R_tight rfl H7.out); rintro e w31 ⟨rfl, hy0, hb, hkp⟩; have n0_ := AM_ (Kept.then_ (S := fun k_ => P0_ k_) (w := w) (by repeat (first | (with_reducible first | exact HK.out | apply Kept.alloc | apply Kept.drewN | apply Kept.drew) | exact HK.out)) hkp (fun k_ hk_ => .inl (HI.out k_ (H7.out.1 k_ hk_.symm)).1)); have ho_ : k50.R 50 w31 w0.heap.size oki v8 (⟨x1_1, wrap64 (x1_1 + 1), (rd_T33 x0_1 x5_1).f2, (rd_T33 x0_1 x5_1).f3⟩ : S33).f3 := Kd.R_mono (Kd.R_kept (Kd.R_apart' (show k50.R 50 _ w0.heap.size oki v8 (⟨x1_1, wrap64 (x1_1 + 1), (rd_T33 x0_1 x5_1).f2, (rd_T33 x0_1 x5_1).f3⟩ : S33).f3 from (RT H8.out)) (Kd.R_typed (show k48.R 48 _ w0.heap.size oki (.slice Av (⟨x1_1, wrap64 (x1_1 + 1), (rd_T33 x0_1 x5_1).f2, (rd_T33 x0_1 x5_1).f3⟩ : S33).f2.length cv) (⟨x1_1, wrap64 (x1_1 + 1), (rd_T33 x0_1 x5_1).f2, (rd_T33 x0_1 x5_1).f3⟩ : S33).f2 from (RT H7.out))) (by decide)) hkp (fun k_ hk_ hs_ => hk_.2 hs_)) (fun k_ hk_ => hk_.1); have hH_ := Kd.H_kept HH.out hkp (fun k_ _ hn_ hs_ => hn_ (H7.out.1 k_ hs_.symm)); have hM_ : k33.M w31 w0.heap.size oki (⟨x1_1, wrap64 (x1_1 + 1), t2, (rd_T33 x0_1 x5_1).f3⟩ : S33) [.int .i64 (x1_1), .int .i64 (wrap64 (x1_1 + 1)), (.slice Av (⟨x1_1, wrap64 (x1_1 + 1), (rd_T33 x0_1 x5_1).f2, (rd_T33 x0_1 x5_1).f3⟩ : S33).f2.length cv), v8] := k33_mkM _ _ _ (⟨x1_1, wrap64 (x1_1 + 1), t2, (rd_T33 x0_1 x5_1).f3⟩ : S33) (Kd.R_reok rfl hy0 (fun k_ e_ => H7.out.1 k_ e_)) ho_; have n1_ : Aside0 (Kd.S k33 33 w31 w0.heap.size P0_ (.slice (some ⟨go5, 0, none⟩) x0_1.length co11) (x0_1.set (x5_1 : Int).toNat (⟨x1_1, wrap64 (x1_1 + 1), t2, (rd_T33 x0_1 x5_1).f3⟩ : S33))) := ⟨by have h_ := Kd.H_back hH_ hM_ (fun _ hk_ => hk_); rw [List.set_set] at h_; exact h_⟩; clear hH_ hM_ ho_ HH HI H7 H8 hx p5 q5; clear HO_0; clear HK; clear HB; have HO_0 := n1_; have HK := n0_; have HB := AM_ hb; clear n0_ n1_ hb hkp hy0; obtain ⟨oki, ce, _, hM, hcc, hoki, hH⟩ := Kd.S_lend (show Kd.S k33 33 w31 w0.heap.size P0_ (.slice (some ⟨go5, 0, none⟩) x0_1.length co11) (x0_1.set (x5_1 : Int).toNat (⟨x1_1, wrap64 (x1_1 + 1), t2, (rd_T33 x0_1 x5_1).f3⟩ : S33)) from (ST HO_0.out)) z33 (x5_1 : Int) C4.out C3.out; rw [(HGET (⟨x1_1, wrap64 (x1_1 + 1), t2, (rd_T33 x0_1 x5_1).f3⟩ : S33)).out] at hM; obtain ⟨v7, v8, rfl, h7, h8⟩ := k33_openM hM; obtain ⟨Av, cv, ev⟩ := Kd.R_slice h8; subst ev; have hx : w31.cell? ⟨go5, (x5_1 : Int).toNat * 4 + 3, none⟩ = some (.slice Av (⟨x1_1, wrap64 (x1_1 + 1), t2, (rd_T33 x0_1 x5_1).f3⟩ : S33).f3.length cv) := hcc 3 _ rfl; have HH := AM_ hH; have HI := AM_ hoki; have H7 := AM_ h7; have H8 := AM_ h8; clear hcc hM hH hoki h7 h8; have p5 : 0 ≤ (x5_1 : Int) := C4.out; have q5 : (x5_1 : Int) < ((x0_1.length : Int) : Int) := C3.out; replace p5 := eq_true p5; replace q5 := eq_true q5) | (go_at_call 19; (with_reducible refine (laws_markWriteS.calls k1 (fun k_ => some k_ = ((.slice Av (⟨x1_1, wrap64 (x1_1 + 1), t2, (rd_T33 x0_1 x5_1).f3⟩ : S33).f3.length cv) : Value).ownBlock) (.slice Av (⟨x1_1, wrap64 (x1_1 + 1), t2, (rd_T33 x0_1 x5_1).f3⟩ : S33).f3.length cv) (⟨x1_1, wrap64 (x1_1 + 1), t2, (rd_T33 x0_1 x5_1).f3⟩ : S33).f3 (t1) t3 t4 w0 _ ?side1 ?side2 A8.out).mono ?_); (case side1 => exact (BT HB.out)); (case side2 => (with_reducible repeat (first | apply Kd.R_alloc | apply Kd.R_drewN | apply Kd.R_drew)); exact Kd.R_tight rfl H8.out); rintro e w32 ⟨rfl, hy0, hb, hkp⟩; have n0_ := AM_ (Kept.then_ (S := fun k_ => P0_ k_) (w := w) (by repeat (first | (with_reducible first | exact HK.out | apply Kept.alloc | apply Kept.drewN | apply Kept.drew) | exact HK.out)) hkp (fun k_ hk_ => .inl (HI.out k_ (H8.out.1 k_ hk_.symm)).1)); have ho_ : k48.R 48 w32 w0.heap.size oki v7 (⟨x1_1, wrap64 (x1_1 + 1), t2, (rd_T33 x0_1 x5_1).f3⟩ : S33).f2 := Kd.R_mono (Kd.R_kept (Kd.R_apart' (show k48.R 48 _ w0.heap.size oki v7 (⟨x1_1, wrap64 (x1_1 + 1), t2, (rd_T33 x0_1 x5_1).f3⟩ : S33).f2 from (RT H7.out)) (Kd.R_typed (show k50.R 50 _ w0.heap.size oki (.slice Av (⟨x1_1, wrap64 (x1_1 + 1), t2, (rd_T33 x0_1 x5_1).f3⟩ : S33).f3.length cv) (⟨x1_1, wrap64 (x1_1 + 1), t2, (rd_T33 x0_1 x5_1).f3⟩ : S33).f3 from (RT H8.out))) (by decide)) hkp (fun k_ hk_ hs_ => hk_.2 hs_)) (fun k_ hk_ => hk_.1); have hH_ := Kd.H_kept HH.out hkp (fun k_ _ hn_ hs_ => hn_ (H8.out.1 k_ hs_.symm)); have hM_ : k33.M w32 w0.heap.size oki (⟨x1_1, wrap64 (x1_1 + 1), t2, t4⟩ : S33) [.int .i64 (x1_1), .int .i64 (wrap64 (x1_1 + 1)), v7, (.slice Av (⟨x1_1, wrap64 (x1_1 + 1), t2, (rd_T33 x0_1 x5_1).f3⟩ : S33).f3.length cv)] := k33_mkM _ _ _ (⟨x1_1, wrap64 (x1_1 + 1), t2, t4⟩ : S33) ho_ (Kd.R_reok rfl hy0 (fun k_ e_ => H8.out.1 k_ e_)); have n1_ : Aside0 (Kd.S k33 33 w32 w0.heap.size P0_ (.slice (some ⟨go5, 0, none⟩) x0_1.length co11) (x0_1.set (x5_1 : Int).toNat (⟨x1_1, wrap64 (x1_1 + 1), t2, t4⟩ : S33))) := ⟨by have h_ := Kd.H_back hH_ hM_ (fun _ hk_ => hk_); rw [List.set_set] at h_; exact h_⟩; clear hH_ hM_ ho_ HH HI H7 H8 hx p5 q5; clear HO_0; clear HK; clear HB; have HO_0 := n1_; have HK := n0_; have HB := AM_ hb; clear n0_ n1_ hb hkp hy0))
   go_roundg k1
   case measure => have := HK1.out; omega
   case rel => exact ⟨(x0_1.set (x5_1 : Int).toNat (⟨x1_1, wrap64 (x1_1 + 1), t2, t4⟩ : S33)), (t3), (wrap64 (x5_1 + 1)), (by first | rfl | (simp; done) | (simp [*]; done)), (by first | rfl | (simp; done) | (simp [*]; done)), H', ⟨by have := HK1.out; omega⟩, ⟨ST HO_0.out⟩, ⟨(by repeat (first | (with_reducible first | exact HK.out | apply Kept.alloc | apply Kept.drewN | apply Kept.drew) | exact HK.out))⟩, ⟨(BT HB.out)⟩⟩

/-! ### laws_heldReadMarkS: function 20 -/
def laws_heldReadMarkS.l0 : Nat → List (S48) → Int → Int → Option (Int)
 | 0, _, _, _ => none
 | k + 1, x0, x1, x5 => if x5 < (x0.length : Int) then (if 0 ≤ x5 then (if ((rd_T48 x0 x5).f0) = x1 then (if ((rd_T48 x0 x5).f1) = (wrap64 (x1 + 1)) then (laws_heldReadMarkS.l0 k x0 (wrap64 ((wrap64 (x1 + 1)) + 1)) (wrap64 (x5 + 1))) else (some (-1))) else (some (-1))) else (none)) else (some x1)
def laws_heldReadMarkS.f (k : Nat) (l0 : List (S48)) (a1 : Int) : Option (Int) := laws_heldReadMarkS.l0 k l0 a1 0
theorem laws_heldReadMarkS.mono_l : ∀ k, (∀ y0 y1 y2, LeO (laws_heldReadMarkS.l0 k y0 y1 y2) (laws_heldReadMarkS.l0 (k + 1) y0 y1 y2))
 | 0 => fun _ _ _ r h => by simp [laws_heldReadMarkS.l0] at h
 | k + 1 => by
  have ih0 := laws_heldReadMarkS.mono_l k
  ·intro y0 y1 y2
   unfold laws_heldReadMarkS.l0
   repeat' first
   | (with_reducible exact ih0 _ _ _)
   | (with_reducible first | exact LeO.refl _ | exact LeO.none _ | refine LeO.ite ?_ ?_ | refine LeO.bind ?_ (fun _ => ?_))
   | exact ih0 _ _ _
   | exact LeO.none _ | refine LeO.ite ?_ ?_ | refine LeO.bind ?_ (fun _ => ?_)
theorem laws_heldReadMarkS.mono : ∀ a0 a1 k, LeO (laws_heldReadMarkS.f k a0 a1) (laws_heldReadMarkS.f (k + 1) a0 a1) := by
 intro a0 a1 k
 have ih0 := laws_heldReadMarkS.mono_l k
 unfold laws_heldReadMarkS.f
 repeat' first
   | (with_reducible exact ih0 _ _ _)
   | (with_reducible first | exact LeO.refl _ | exact LeO.none _ | refine LeO.ite ?_ ?_ | refine LeO.bind ?_ (fun _ => ?_))
   | exact ih0 _ _ _
   | exact LeO.none _ | refine LeO.ite ?_ ?_ | refine LeO.bind ?_ (fun _ => ?_)
theorem laws_heldReadMarkS.calls (k : Nat) (A0 : Option Addr) (c0 : Nat) (l0 : List (S48)) (a1 : Int) (r : Int) (w : World) (hr0 : Kd.C k48 w A0 l0.length l0) (hc0 : l0.length ≤ c0) (h : laws_heldReadMarkS.f k l0 a1 = some r) :
  Calls Tryz.prog 20 #[.slice A0 l0.length c0, .int .i64 a1] w fun e w' => e = .returned (.int .i64 r) ∧ Drawn0 w w' := by
 have HR0 := AM_ hr0
 have HC0 := AM_ hc0
 clear hr0 hc0
 have H : (laws_heldReadMarkS.l0 k l0 a1 0) = some r := h
 clear h
 have H' := AM_ H
 clear H
 go_enter Tryz.func20, Tryz.ntmps20
 go_wp2
 go_loopg [1, 5] k (fun kq v1 v5 w' => ∃ (x1_1 : Int) (x5_1 : Int), v1 = .int .i64 x1_1 ∧ v5 = .int .i64 x5_1 ∧ Aside0 (laws_heldReadMarkS.l0 kq l0 x1_1 x5_1 = some r) ∧ Aside0 (kq ≤ k) ∧ Drawn0 w w')
 case atStart => exact ⟨(a1), (0), (by first | rfl | (simp; done) | (simp [*]; done)), (by first | rfl | (simp; done) | (simp [*]; done)), H', ⟨Nat.le_refl _⟩, by repeat (first | exact Drawn0.refl _ | apply Drawn0.step)⟩
 case round =>
  clear H'
  try clear c2
  try clear p2
  obtain ⟨x1_1, x5_1, rfl, rfl, HA, HK1, ⟨m1, rfl⟩⟩ := hrel
  cases gk with
  | zero => exact absurd HA.out (by simp [laws_heldReadMarkS.l0])
  | succ k1 =>
   have H := HA.out
   clear HA
   simp only [laws_heldReadMarkS.l0] at H
   by_cases c3 : x5_1 < (l0.length : Int)
   rotate_left
   ·rw [if_neg c3] at H
    have c3b0 : decide (x5_1 < (l0.length : Int)) = false := decide_eq_false c3
    clear c3
    obtain rfl := Option.some.inj H
    go_wp2
    go_ret
    exact ⟨by first | rfl | (simp; done) | (simp [*]; done), by repeat (first | exact Drawn0.refl _ | apply Drawn0.step)⟩
   rw [if_pos c3] at H
   have c3b0 : decide (x5_1 < (l0.length : Int)) = true := decide_eq_true c3
   clear c3
   replace H := HI H
   obtain ⟨c4, H⟩ := H
   have c4b0 : decide (0 ≤ x5_1) = true := decide_eq_true c4
   clear c4
   by_cases c5 : ((rd_T48 l0 x5_1).f0) = x1_1
   rotate_left
   ·rw [if_neg c5] at H
    have c5b0 : (((rd_T48 l0 x5_1).f0) == x1_1) = false := beq_eq_false_iff_ne.mpr c5
    have c5b1 : (((rd_T48 l0 x5_1).f0) != x1_1) = true := bne_iff_ne.mpr c5
    obtain rfl := Option.some.inj H
    have p435 : 0 ≤ (x5_1 : Int) := DT
    have q435 : x5_1 < (l0.length : Int) := DT
    obtain ⟨ad435, e435, hx435_0, hx435_1⟩ := at_T48 HR0.out x5_1 p435 q435
    cases e435
    replace p435 := eq_true p435
    replace q435 := eq_true q435
    go_wp2
    go_ret
    exact ⟨by first | rfl | (simp; done) | (simp [*]; done), by repeat (first | exact Drawn0.refl _ | apply Drawn0.step)⟩
   rw [if_pos c5] at H
   have c5b0 : (((rd_T48 l0 x5_1).f0) == x1_1) = true := beq_iff_eq.mpr c5
   have c5b1 : (((rd_T48 l0 x5_1).f0) != x1_1) = false := bne_eq_false_iff_eq.mpr c5
   clear c5
   by_cases c6 : ((rd_T48 l0 x5_1).f1) = (wrap64 (x1_1 + 1))
   rotate_left
   ·rw [if_neg c6] at H
    have c6b0 : (((rd_T48 l0 x5_1).f1) == (wrap64 (x1_1 + 1))) = false := beq_eq_false_iff_ne.mpr c6
    have c6b1 : (((rd_T48 l0 x5_1).f1) != (wrap64 (x1_1 + 1))) = true := bne_iff_ne.mpr c6
    obtain rfl := Option.some.inj H
    have p435 : 0 ≤ (x5_1 : Int) := DT
    have q435 : x5_1 < (l0.length : Int) := DT
    obtain ⟨ad435, e435, hx435_0, hx435_1⟩ := at_T48 HR0.out x5_1 p435 q435
    cases e435
    replace p435 := eq_true p435
    replace q435 := eq_true q435
    have p436 : 0 ≤ (x5_1 : Int) := DT
    have q436 : x5_1 < (l0.length : Int) := DT
    obtain ⟨ad436, e436, hx436_0, hx436_1⟩ := at_T48 HR0.out x5_1 p436 q436
    obtain rfl : ad435 = ad436 := (by injection e436)
    replace p436 := eq_true p436
    replace q436 := eq_true q436
    go_wp2
    go_ret
    exact ⟨by first | rfl | (simp; done) | (simp [*]; done), by repeat (first | exact Drawn0.refl _ | apply Drawn0.step)⟩
   rw [if_pos c6] at H
   have c6b0 : (((rd_T48 l0 x5_1).f1) == (wrap64 (x1_1 + 1))) = true := beq_iff_eq.mpr c6
   have c6b1 : (((rd_T48 l0 x5_1).f1) != (wrap64 (x1_1 + 1))) = false := bne_eq_false_iff_eq.mpr c6
   clear c6
   have H' := AM_ H
   clear H
   have p435 : 0 ≤ (x5_1 : Int) := DT
   have q435 : x5_1 < (l0.length : Int) := DT
   obtain ⟨ad435, e435, hx435_0, hx435_1⟩ := at_T48 HR0.out x5_1 p435 q435
   cases e435
   replace p435 := eq_true p435
   replace q435 := eq_true q435
   have p436 : 0 ≤ (x5_1 : Int) := DT
   have q436 : x5_1 < (l0.length : Int) := DT
   obtain ⟨ad436, e436, hx436_0, hx436_1⟩ := at_T48 HR0.out x5_1 p436 q436
   obtain rfl : ad435 = ad436 := (by injection e436)
   replace p436 := eq_true p436
   replace q436 := eq_true q436
   go_wp2
   go_roundg k1
   case measure => have := HK1.out; omega
   case rel => exact ⟨(wrap64 ((wrap64 (x1_1 + 1)) + 1)), (wrap64 (x5_1 + 1)), (by first | rfl | (simp; done) | (simp [*]; done)), (by first | rfl | (simp; done) | (simp [*]; done)), H', ⟨by have := HK1.out; omega⟩, by repeat (first | exact Drawn0.refl _ | apply Drawn0.step)⟩

/-! ### laws_heldWriteS: function 21 -/
def laws_heldWriteS.l0 : Nat → List (S50) → Int → Int → Option (Int)
 | 0, _, _, _ => none
 | k + 1, x0, x1, x5 => if x5 < (x0.length : Int) then (if 0 ≤ x5 then (if ((rd_T50 x0 x5).f0) = x1 then (if ((rd_T50 x0 x5).f1) = (wrap64 (x1 + 1)) then (laws_heldWriteS.l0 k x0 (wrap64 ((wrap64 (x1 + 1)) + 1)) (wrap64 (x5 + 1))) else (some (-1))) else (some (-1))) else (none)) else (some x1)
def laws_heldWriteS.f (k : Nat) (l0 : List (S50)) (a1 : Int) : Option (Int) := laws_heldWriteS.l0 k l0 a1 0
theorem laws_heldWriteS.mono_l : ∀ k, (∀ y0 y1 y2, LeO (laws_heldWriteS.l0 k y0 y1 y2) (laws_heldWriteS.l0 (k + 1) y0 y1 y2))
 | 0 => fun _ _ _ r h => by simp [laws_heldWriteS.l0] at h
 | k + 1 => by
  have ih0 := laws_heldWriteS.mono_l k
  ·intro y0 y1 y2
   unfold laws_heldWriteS.l0
   repeat' first
   | (with_reducible exact ih0 _ _ _)
   | (with_reducible first | exact LeO.refl _ | exact LeO.none _ | refine LeO.ite ?_ ?_ | refine LeO.bind ?_ (fun _ => ?_))
   | exact ih0 _ _ _
   | exact LeO.none _ | refine LeO.ite ?_ ?_ | refine LeO.bind ?_ (fun _ => ?_)
theorem laws_heldWriteS.mono : ∀ a0 a1 k, LeO (laws_heldWriteS.f k a0 a1) (laws_heldWriteS.f (k + 1) a0 a1) := by
 intro a0 a1 k
 have ih0 := laws_heldWriteS.mono_l k
 unfold laws_heldWriteS.f
 repeat' first
   | (with_reducible exact ih0 _ _ _)
   | (with_reducible first | exact LeO.refl _ | exact LeO.none _ | refine LeO.ite ?_ ?_ | refine LeO.bind ?_ (fun _ => ?_))
   | exact ih0 _ _ _
   | exact LeO.none _ | refine LeO.ite ?_ ?_ | refine LeO.bind ?_ (fun _ => ?_)
theorem laws_heldWriteS.calls (k : Nat) (A0 : Option Addr) (c0 : Nat) (l0 : List (S50)) (a1 : Int) (r : Int) (w : World) (hr0 : Kd.C k50 w A0 l0.length l0) (hc0 : l0.length ≤ c0) (h : laws_heldWriteS.f k l0 a1 = some r) :
  Calls Tryz.prog 21 #[.slice A0 l0.length c0, .int .i64 a1] w fun e w' => e = .returned (.int .i64 r) ∧ Drawn0 w w' := by
 have HR0 := AM_ hr0
 have HC0 := AM_ hc0
 clear hr0 hc0
 have H : (laws_heldWriteS.l0 k l0 a1 0) = some r := h
 clear h
 have H' := AM_ H
 clear H
 go_enter Tryz.func21, Tryz.ntmps21
 go_wp2
 go_loopg [1, 5] k (fun kq v1 v5 w' => ∃ (x1_1 : Int) (x5_1 : Int), v1 = .int .i64 x1_1 ∧ v5 = .int .i64 x5_1 ∧ Aside0 (laws_heldWriteS.l0 kq l0 x1_1 x5_1 = some r) ∧ Aside0 (kq ≤ k) ∧ Drawn0 w w')
 case atStart => exact ⟨(a1), (0), (by first | rfl | (simp; done) | (simp [*]; done)), (by first | rfl | (simp; done) | (simp [*]; done)), H', ⟨Nat.le_refl _⟩, by repeat (first | exact Drawn0.refl _ | apply Drawn0.step)⟩
 case round =>
  clear H'
  try clear c2
  try clear p2
  obtain ⟨x1_1, x5_1, rfl, rfl, HA, HK1, ⟨m1, rfl⟩⟩ := hrel
  cases gk with
  | zero => exact absurd HA.out (by simp [laws_heldWriteS.l0])
  | succ k1 =>
   have H := HA.out
   clear HA
   simp only [laws_heldWriteS.l0] at H
   by_cases c3 : x5_1 < (l0.length : Int)
   rotate_left
   ·rw [if_neg c3] at H
    have c3b0 : decide (x5_1 < (l0.length : Int)) = false := decide_eq_false c3
    clear c3
    obtain rfl := Option.some.inj H
    go_wp2
    go_ret
    exact ⟨by first | rfl | (simp; done) | (simp [*]; done), by repeat (first | exact Drawn0.refl _ | apply Drawn0.step)⟩
   rw [if_pos c3] at H
   have c3b0 : decide (x5_1 < (l0.length : Int)) = true := decide_eq_true c3
   clear c3
   replace H := HI H
   obtain ⟨c4, H⟩ := H
   have c4b0 : decide (0 ≤ x5_1) = true := decide_eq_true c4
   clear c4
   by_cases c5 : ((rd_T50 l0 x5_1).f0) = x1_1
   rotate_left
   ·rw [if_neg c5] at H
    have c5b0 : (((rd_T50 l0 x5_1).f0) == x1_1) = false := beq_eq_false_iff_ne.mpr c5
    have c5b1 : (((rd_T50 l0 x5_1).f0) != x1_1) = true := bne_iff_ne.mpr c5
    obtain rfl := Option.some.inj H
    have p437 : 0 ≤ (x5_1 : Int) := DT
    have q437 : x5_1 < (l0.length : Int) := DT
    obtain ⟨ad437, e437, hx437_0, hx437_1⟩ := at_T50 HR0.out x5_1 p437 q437
    cases e437
    replace p437 := eq_true p437
    replace q437 := eq_true q437
    go_wp2
    go_ret
    exact ⟨by first | rfl | (simp; done) | (simp [*]; done), by repeat (first | exact Drawn0.refl _ | apply Drawn0.step)⟩
   rw [if_pos c5] at H
   have c5b0 : (((rd_T50 l0 x5_1).f0) == x1_1) = true := beq_iff_eq.mpr c5
   have c5b1 : (((rd_T50 l0 x5_1).f0) != x1_1) = false := bne_eq_false_iff_eq.mpr c5
   clear c5
   by_cases c6 : ((rd_T50 l0 x5_1).f1) = (wrap64 (x1_1 + 1))
   rotate_left
   ·rw [if_neg c6] at H
    have c6b0 : (((rd_T50 l0 x5_1).f1) == (wrap64 (x1_1 + 1))) = false := beq_eq_false_iff_ne.mpr c6
    have c6b1 : (((rd_T50 l0 x5_1).f1) != (wrap64 (x1_1 + 1))) = true := bne_iff_ne.mpr c6
    obtain rfl := Option.some.inj H
    have p437 : 0 ≤ (x5_1 : Int) := DT
    have q437 : x5_1 < (l0.length : Int) := DT
    obtain ⟨ad437, e437, hx437_0, hx437_1⟩ := at_T50 HR0.out x5_1 p437 q437
    cases e437
    replace p437 := eq_true p437
    replace q437 := eq_true q437
    have p438 : 0 ≤ (x5_1 : Int) := DT
    have q438 : x5_1 < (l0.length : Int) := DT
    obtain ⟨ad438, e438, hx438_0, hx438_1⟩ := at_T50 HR0.out x5_1 p438 q438
    obtain rfl : ad437 = ad438 := (by injection e438)
    replace p438 := eq_true p438
    replace q438 := eq_true q438
    go_wp2
    go_ret
    exact ⟨by first | rfl | (simp; done) | (simp [*]; done), by repeat (first | exact Drawn0.refl _ | apply Drawn0.step)⟩
   rw [if_pos c6] at H
   have c6b0 : (((rd_T50 l0 x5_1).f1) == (wrap64 (x1_1 + 1))) = true := beq_iff_eq.mpr c6
   have c6b1 : (((rd_T50 l0 x5_1).f1) != (wrap64 (x1_1 + 1))) = false := bne_eq_false_iff_eq.mpr c6
   clear c6
   have H' := AM_ H
   clear H
   have p437 : 0 ≤ (x5_1 : Int) := DT
   have q437 : x5_1 < (l0.length : Int) := DT
   obtain ⟨ad437, e437, hx437_0, hx437_1⟩ := at_T50 HR0.out x5_1 p437 q437
   cases e437
   replace p437 := eq_true p437
   replace q437 := eq_true q437
   have p438 : 0 ≤ (x5_1 : Int) := DT
   have q438 : x5_1 < (l0.length : Int) := DT
   obtain ⟨ad438, e438, hx438_0, hx438_1⟩ := at_T50 HR0.out x5_1 p438 q438
   obtain rfl : ad437 = ad438 := (by injection e438)
   replace p438 := eq_true p438
   replace q438 := eq_true q438
   go_wp2
   go_roundg k1
   case measure => have := HK1.out; omega
   case rel => exact ⟨(wrap64 ((wrap64 (x1_1 + 1)) + 1)), (wrap64 (x5_1 + 1)), (by first | rfl | (simp; done) | (simp [*]; done)), (by first | rfl | (simp; done) | (simp [*]; done)), H', ⟨by have := HK1.out; omega⟩, by repeat (first | exact Drawn0.refl _ | apply Drawn0.step)⟩

/-! ### laws_heldEntryS: function 8 -/
def laws_heldEntryS.l0 : Nat → List (S33) → Int → Int → Option (Int)
 | 0, _, _, _ => none
 | k + 1, x0, x1, x5 => if x5 < (x0.length : Int) then (if 0 ≤ x5 then (if ((rd_T33 x0 x5).f0) = x1 then (if ((rd_T33 x0 x5).f1) = (wrap64 (x1 + 1)) then ((laws_heldReadMarkS.f k ((rd_T33 x0 x5).f2) (wrap64 ((wrap64 (x1 + 1)) + 1))).bind fun t442 => (if t442 < 0 then (some (-1)) else ((laws_heldWriteS.f k ((rd_T33 x0 x5).f3) t442).bind fun t444 => (if t444 < 0 then (some (-1)) else (laws_heldEntryS.l0 k x0 t444 (wrap64 (x5 + 1))))))) else (some (-1))) else (some (-1))) else (none)) else (some x1)
def laws_heldEntryS.f (k : Nat) (l0 : List (S33)) (a1 : Int) : Option (Int) := laws_heldEntryS.l0 k l0 a1 0
theorem laws_heldEntryS.mono_l : ∀ k, (∀ y0 y1 y2, LeO (laws_heldEntryS.l0 k y0 y1 y2) (laws_heldEntryS.l0 (k + 1) y0 y1 y2))
 | 0 => fun _ _ _ r h => by simp [laws_heldEntryS.l0] at h
 | k + 1 => by
  have ih0 := laws_heldEntryS.mono_l k
  ·intro y0 y1 y2
   unfold laws_heldEntryS.l0
   repeat' first
   | (with_reducible exact ih0 _ _ _)
   | (with_reducible exact laws_heldReadMarkS.mono _ _ _)
   | (with_reducible exact laws_heldWriteS.mono _ _ _)
   | (with_reducible first | exact LeO.refl _ | exact LeO.none _ | refine LeO.ite ?_ ?_ | refine LeO.bind ?_ (fun _ => ?_))
   | exact ih0 _ _ _
   | exact laws_heldReadMarkS.mono _ _ _
   | exact laws_heldWriteS.mono _ _ _
   | exact LeO.none _ | refine LeO.ite ?_ ?_ | refine LeO.bind ?_ (fun _ => ?_)
theorem laws_heldEntryS.mono : ∀ a0 a1 k, LeO (laws_heldEntryS.f k a0 a1) (laws_heldEntryS.f (k + 1) a0 a1) := by
 intro a0 a1 k
 have ih0 := laws_heldEntryS.mono_l k
 unfold laws_heldEntryS.f
 repeat' first
   | (with_reducible exact ih0 _ _ _)
   | (with_reducible exact laws_heldReadMarkS.mono _ _ _)
   | (with_reducible exact laws_heldWriteS.mono _ _ _)
   | (with_reducible first | exact LeO.refl _ | exact LeO.none _ | refine LeO.ite ?_ ?_ | refine LeO.bind ?_ (fun _ => ?_))
   | exact ih0 _ _ _
   | exact laws_heldReadMarkS.mono _ _ _
   | exact laws_heldWriteS.mono _ _ _
   | exact LeO.none _ | refine LeO.ite ?_ ?_ | refine LeO.bind ?_ (fun _ => ?_)
theorem laws_heldEntryS.calls (k : Nat) (A0 : Option Addr) (c0 : Nat) (l0 : List (S33)) (a1 : Int) (r : Int) (w : World) (hr0 : Kd.C k33 w A0 l0.length l0) (hc0 : l0.length ≤ c0) (h : laws_heldEntryS.f k l0 a1 = some r) :
  Calls Tryz.prog 8 #[.slice A0 l0.length c0, .int .i64 a1] w fun e w' => e = .returned (.int .i64 r) ∧ Drawn0 w w' := by
 have HR0 := AM_ hr0
 have HC0 := AM_ hc0
 clear hr0 hc0
 have H : (laws_heldEntryS.l0 k l0 a1 0) = some r := h
 clear h
 have H' := AM_ H
 clear H
 go_enter Tryz.func8, Tryz.ntmps8
 go_wp2
 go_loopg [1, 5] k (fun kq v1 v5 w' => ∃ (x1_1 : Int) (x5_1 : Int), v1 = .int .i64 x1_1 ∧ v5 = .int .i64 x5_1 ∧ Aside0 (laws_heldEntryS.l0 kq l0 x1_1 x5_1 = some r) ∧ Aside0 (kq ≤ k) ∧ Drawn0 w w')
 case atStart => exact ⟨(a1), (0), (by first | rfl | (simp; done) | (simp [*]; done)), (by first | rfl | (simp; done) | (simp [*]; done)), H', ⟨Nat.le_refl _⟩, by repeat (first | exact Drawn0.refl _ | apply Drawn0.step)⟩
 case round =>
  clear H'
  try clear p2
  obtain ⟨x1_1, x5_1, rfl, rfl, HA, HK1, ⟨m1, rfl⟩⟩ := hrel
  cases gk with
  | zero => exact absurd HA.out (by simp [laws_heldEntryS.l0])
  | succ k1 =>
   have H := HA.out
   clear HA
   simp only [laws_heldEntryS.l0] at H
   by_cases c3 : x5_1 < (l0.length : Int)
   rotate_left
   ·rw [if_neg c3] at H
    have c3b0 : decide (x5_1 < (l0.length : Int)) = false := decide_eq_false c3
    clear c3
    obtain rfl := Option.some.inj H
    go_wp2
    go_ret
    exact ⟨by first | rfl | (simp; done) | (simp [*]; done), by repeat (first | exact Drawn0.refl _ | apply Drawn0.step)⟩
   rw [if_pos c3] at H
   have c3b0 : decide (x5_1 < (l0.length : Int)) = true := decide_eq_true c3
   clear c3
   replace H := HI H
   obtain ⟨c4, H⟩ := H
   have c4b0 : decide (0 ≤ x5_1) = true := decide_eq_true c4
   clear c4
   by_cases c5 : ((rd_T33 l0 x5_1).f0) = x1_1
   rotate_left
   ·rw [if_neg c5] at H
    have c5b0 : (((rd_T33 l0 x5_1).f0) == x1_1) = false := beq_eq_false_iff_ne.mpr c5
    have c5b1 : (((rd_T33 l0 x5_1).f0) != x1_1) = true := bne_iff_ne.mpr c5
    obtain rfl := Option.some.inj H
    have p439 : 0 ≤ (x5_1 : Int) := DT
    have q439 : x5_1 < (l0.length : Int) := DT
    obtain ⟨ad439, A439_2, c439_2, A439_3, c439_3, e439, hx439_0, hx439_1, hx439_2, hx439_3, hl439_2, hi439_2, hl439_3, hi439_3⟩ := at_T33 HR0.out x5_1 p439 q439
    cases e439
    have HR439_2 := AM_ hi439_2
    have HC439_2 := AM_ hl439_2
    clear hi439_2 hl439_2
    have HR439_3 := AM_ hi439_3
    have HC439_3 := AM_ hl439_3
    clear hi439_3 hl439_3
    replace p439 := eq_true p439
    replace q439 := eq_true q439
    go_wp2
    go_ret
    exact ⟨by first | rfl | (simp; done) | (simp [*]; done), by repeat (first | exact Drawn0.refl _ | apply Drawn0.step)⟩
   rw [if_pos c5] at H
   have c5b0 : (((rd_T33 l0 x5_1).f0) == x1_1) = true := beq_iff_eq.mpr c5
   have c5b1 : (((rd_T33 l0 x5_1).f0) != x1_1) = false := bne_eq_false_iff_eq.mpr c5
   clear c5
   by_cases c6 : ((rd_T33 l0 x5_1).f1) = (wrap64 (x1_1 + 1))
   rotate_left
   ·rw [if_neg c6] at H
    have c6b0 : (((rd_T33 l0 x5_1).f1) == (wrap64 (x1_1 + 1))) = false := beq_eq_false_iff_ne.mpr c6
    have c6b1 : (((rd_T33 l0 x5_1).f1) != (wrap64 (x1_1 + 1))) = true := bne_iff_ne.mpr c6
    obtain rfl := Option.some.inj H
    have p439 : 0 ≤ (x5_1 : Int) := DT
    have q439 : x5_1 < (l0.length : Int) := DT
    obtain ⟨ad439, A439_2, c439_2, A439_3, c439_3, e439, hx439_0, hx439_1, hx439_2, hx439_3, hl439_2, hi439_2, hl439_3, hi439_3⟩ := at_T33 HR0.out x5_1 p439 q439
    cases e439
    have HR439_2 := AM_ hi439_2
    have HC439_2 := AM_ hl439_2
    clear hi439_2 hl439_2
    have HR439_3 := AM_ hi439_3
    have HC439_3 := AM_ hl439_3
    clear hi439_3 hl439_3
    replace p439 := eq_true p439
    replace q439 := eq_true q439
    have p440 : 0 ≤ (x5_1 : Int) := DT
    have q440 : x5_1 < (l0.length : Int) := DT
    obtain ⟨ad440, A440_2, c440_2, A440_3, c440_3, e440, hx440_0, hx440_1, hx440_2, hx440_3, hl440_2, hi440_2, hl440_3, hi440_3⟩ := at_T33 HR0.out x5_1 p440 q440
    obtain rfl : ad439 = ad440 := (by injection e440)
    have HR440_2 := AM_ hi440_2
    have HC440_2 := AM_ hl440_2
    clear hi440_2 hl440_2
    have HR440_3 := AM_ hi440_3
    have HC440_3 := AM_ hl440_3
    clear hi440_3 hl440_3
    replace p440 := eq_true p440
    replace q440 := eq_true q440
    have ea_ := Option.some.inj (hx439_2.symm.trans hx440_2)
    injection ea_ with ea_ en_ ec_
    subst ea_
    subst ec_
    clear en_
    have ea_ := Option.some.inj (hx439_3.symm.trans hx440_3)
    injection ea_ with ea_ en_ ec_
    subst ea_
    subst ec_
    clear en_
    go_wp2
    go_ret
    exact ⟨by first | rfl | (simp; done) | (simp [*]; done), by repeat (first | exact Drawn0.refl _ | apply Drawn0.step)⟩
   rw [if_pos c6] at H
   have c6b0 : (((rd_T33 l0 x5_1).f1) == (wrap64 (x1_1 + 1))) = true := beq_iff_eq.mpr c6
   have c6b1 : (((rd_T33 l0 x5_1).f1) != (wrap64 (x1_1 + 1))) = false := bne_eq_false_iff_eq.mpr c6
   clear c6
   replace H := Option.bind_eq_some_iff.mp H
   obtain ⟨t442, A70, H⟩ := H
   replace H : (if t442 < 0 then (some (-1)) else ((laws_heldWriteS.f k1 ((rd_T33 l0 x5_1).f3) t442).bind fun t444 => (if t444 < 0 then (some (-1)) else (laws_heldEntryS.l0 k1 l0 t444 (wrap64 (x5_1 + 1)))))) = some r := H
   have A7 := AM_ A70
   clear A70
   by_cases c8 : t442 < 0
   ·rw [if_pos c8] at H
    have c8b0 : decide (t442 < 0) = true := decide_eq_true c8
    clear c8
    obtain rfl := Option.some.inj H
    have p439 : 0 ≤ (x5_1 : Int) := DT
    have q439 : x5_1 < (l0.length : Int) := DT
    obtain ⟨ad439, A439_2, c439_2, A439_3, c439_3, e439, hx439_0, hx439_1, hx439_2, hx439_3, hl439_2, hi439_2, hl439_3, hi439_3⟩ := at_T33 HR0.out x5_1 p439 q439
    cases e439
    have HR439_2 := AM_ hi439_2
    have HC439_2 := AM_ hl439_2
    clear hi439_2 hl439_2
    have HR439_3 := AM_ hi439_3
    have HC439_3 := AM_ hl439_3
    clear hi439_3 hl439_3
    replace p439 := eq_true p439
    replace q439 := eq_true q439
    have p440 : 0 ≤ (x5_1 : Int) := DT
    have q440 : x5_1 < (l0.length : Int) := DT
    obtain ⟨ad440, A440_2, c440_2, A440_3, c440_3, e440, hx440_0, hx440_1, hx440_2, hx440_3, hl440_2, hi440_2, hl440_3, hi440_3⟩ := at_T33 HR0.out x5_1 p440 q440
    obtain rfl : ad439 = ad440 := (by injection e440)
    have HR440_2 := AM_ hi440_2
    have HC440_2 := AM_ hl440_2
    clear hi440_2 hl440_2
    have HR440_3 := AM_ hi440_3
    have HC440_3 := AM_ hl440_3
    clear hi440_3 hl440_3
    replace p440 := eq_true p440
    replace q440 := eq_true q440
    have ea_ := Option.some.inj (hx439_2.symm.trans hx440_2)
    injection ea_ with ea_ en_ ec_
    subst ea_
    subst ec_
    clear en_
    have ea_ := Option.some.inj (hx439_3.symm.trans hx440_3)
    injection ea_ with ea_ en_ ec_
    subst ea_
    subst ec_
    clear en_
    have p441 : 0 ≤ (x5_1 : Int) := DT
    have q441 : x5_1 < (l0.length : Int) := DT
    obtain ⟨ad441, A441_2, c441_2, A441_3, c441_3, e441, hx441_0, hx441_1, hx441_2, hx441_3, hl441_2, hi441_2, hl441_3, hi441_3⟩ := at_T33 HR0.out x5_1 p441 q441
    obtain rfl : ad439 = ad441 := (by injection e441)
    have HR441_2 := AM_ hi441_2
    have HC441_2 := AM_ hl441_2
    clear hi441_2 hl441_2
    have HR441_3 := AM_ hi441_3
    have HC441_3 := AM_ hl441_3
    clear hi441_3 hl441_3
    replace p441 := eq_true p441
    replace q441 := eq_true q441
    have ea_ := Option.some.inj (hx439_2.symm.trans hx441_2)
    injection ea_ with ea_ en_ ec_
    subst ea_
    subst ec_
    clear en_
    have ea_ := Option.some.inj (hx439_3.symm.trans hx441_3)
    injection ea_ with ea_ en_ ec_
    subst ea_
    subst ec_
    clear en_
    go_wp2_with (first | ((with_reducible refine gate_callee (f := 20) rfl ?_); refine goesL_ (some 36) rfl rfl Tryz.func20 (by kernel_rfl) rfl #[.slice A439_2 ((rd_T33 l0 x5_1).f2).length c439_2, .int .i64 (wrap64 ((wrap64 (x1_1 + 1)) + 1))] rfl (by (try simp only [List.map_toArray, List.map_cons, List.map_nil]); first | done | rfl | (simp only [List.length_drop, List.length_take]; rfl)) ?_; (with_reducible refine (laws_heldReadMarkS.calls k1 _ _ ((rd_T33 l0 x5_1).f2) (wrap64 ((wrap64 (x1_1 + 1)) + 1)) t442 _ ?side1 ?side2 A7.out).mono ?_); (case side1 => repeat (first | exact HR441_2.out | (with_reducible refine Kd.C_alloc ?_ _) | (with_reducible refine Kd.C_drewN ?_ _) | (with_reducible refine Kd.C_drew ?_))); (case side2 => exact HC441_2.out); rintro e w' ⟨rfl, ⟨nd, rfl⟩⟩; refine ⟨_, rfl, ?_⟩))
    go_ret
    exact ⟨by first | rfl | (simp; done) | (simp [*]; done), by repeat (first | exact Drawn0.refl _ | apply Drawn0.step)⟩
   rw [if_neg c8] at H
   have c8b0 : decide (t442 < 0) = false := decide_eq_false c8
   clear c8
   replace H := Option.bind_eq_some_iff.mp H
   obtain ⟨t444, A90, H⟩ := H
   replace H : (if t444 < 0 then (some (-1)) else (laws_heldEntryS.l0 k1 l0 t444 (wrap64 (x5_1 + 1)))) = some r := H
   have A9 := AM_ A90
   clear A90
   by_cases c10 : t444 < 0
   ·rw [if_pos c10] at H
    have c10b0 : decide (t444 < 0) = true := decide_eq_true c10
    clear c10
    obtain rfl := Option.some.inj H
    have p439 : 0 ≤ (x5_1 : Int) := DT
    have q439 : x5_1 < (l0.length : Int) := DT
    obtain ⟨ad439, A439_2, c439_2, A439_3, c439_3, e439, hx439_0, hx439_1, hx439_2, hx439_3, hl439_2, hi439_2, hl439_3, hi439_3⟩ := at_T33 HR0.out x5_1 p439 q439
    cases e439
    have HR439_2 := AM_ hi439_2
    have HC439_2 := AM_ hl439_2
    clear hi439_2 hl439_2
    have HR439_3 := AM_ hi439_3
    have HC439_3 := AM_ hl439_3
    clear hi439_3 hl439_3
    replace p439 := eq_true p439
    replace q439 := eq_true q439
    have p440 : 0 ≤ (x5_1 : Int) := DT
    have q440 : x5_1 < (l0.length : Int) := DT
    obtain ⟨ad440, A440_2, c440_2, A440_3, c440_3, e440, hx440_0, hx440_1, hx440_2, hx440_3, hl440_2, hi440_2, hl440_3, hi440_3⟩ := at_T33 HR0.out x5_1 p440 q440
    obtain rfl : ad439 = ad440 := (by injection e440)
    have HR440_2 := AM_ hi440_2
    have HC440_2 := AM_ hl440_2
    clear hi440_2 hl440_2
    have HR440_3 := AM_ hi440_3
    have HC440_3 := AM_ hl440_3
    clear hi440_3 hl440_3
    replace p440 := eq_true p440
    replace q440 := eq_true q440
    have ea_ := Option.some.inj (hx439_2.symm.trans hx440_2)
    injection ea_ with ea_ en_ ec_
    subst ea_
    subst ec_
    clear en_
    have ea_ := Option.some.inj (hx439_3.symm.trans hx440_3)
    injection ea_ with ea_ en_ ec_
    subst ea_
    subst ec_
    clear en_
    have p441 : 0 ≤ (x5_1 : Int) := DT
    have q441 : x5_1 < (l0.length : Int) := DT
    obtain ⟨ad441, A441_2, c441_2, A441_3, c441_3, e441, hx441_0, hx441_1, hx441_2, hx441_3, hl441_2, hi441_2, hl441_3, hi441_3⟩ := at_T33 HR0.out x5_1 p441 q441
    obtain rfl : ad439 = ad441 := (by injection e441)
    have HR441_2 := AM_ hi441_2
    have HC441_2 := AM_ hl441_2
    clear hi441_2 hl441_2
    have HR441_3 := AM_ hi441_3
    have HC441_3 := AM_ hl441_3
    clear hi441_3 hl441_3
    replace p441 := eq_true p441
    replace q441 := eq_true q441
    have ea_ := Option.some.inj (hx439_2.symm.trans hx441_2)
    injection ea_ with ea_ en_ ec_
    subst ea_
    subst ec_
    clear en_
    have ea_ := Option.some.inj (hx439_3.symm.trans hx441_3)
    injection ea_ with ea_ en_ ec_
    subst ea_
    subst ec_
    clear en_
    go_wp2_with (first | ((with_reducible refine gate_callee (f := 20) rfl ?_); refine goesL_ (some 36) rfl rfl Tryz.func20 (by kernel_rfl) rfl #[.slice A439_2 ((rd_T33 l0 x5_1).f2).length c439_2, .int .i64 (wrap64 ((wrap64 (x1_1 + 1)) + 1))] rfl (by (try simp only [List.map_toArray, List.map_cons, List.map_nil]); first | done | rfl | (simp only [List.length_drop, List.length_take]; rfl)) ?_; (with_reducible refine (laws_heldReadMarkS.calls k1 _ _ ((rd_T33 l0 x5_1).f2) (wrap64 ((wrap64 (x1_1 + 1)) + 1)) t442 _ ?side1 ?side2 A7.out).mono ?_); (case side1 => repeat (first | exact HR441_2.out | (with_reducible refine Kd.C_alloc ?_ _) | (with_reducible refine Kd.C_drewN ?_ _) | (with_reducible refine Kd.C_drew ?_))); (case side2 => exact HC441_2.out); rintro e w' ⟨rfl, ⟨nd, rfl⟩⟩; refine ⟨_, rfl, ?_⟩; have p443 : 0 ≤ (x5_1 : Int) := DT; have q443 : x5_1 < (l0.length : Int) := DT; obtain ⟨ad443, A443_2, c443_2, A443_3, c443_3, e443, hx443_0, hx443_1, hx443_2, hx443_3, hl443_2, hi443_2, hl443_3, hi443_3⟩ := at_T33 HR0.out x5_1 p443 q443; obtain rfl : ad439 = ad443 := (by injection e443); have HR443_2 := AM_ hi443_2; have HC443_2 := AM_ hl443_2; clear hi443_2 hl443_2; have HR443_3 := AM_ hi443_3; have HC443_3 := AM_ hl443_3; clear hi443_3 hl443_3; replace p443 := eq_true p443; replace q443 := eq_true q443; have ea_ := Option.some.inj (hx439_2.symm.trans hx443_2); injection ea_ with ea_ en_ ec_; subst ea_; subst ec_; clear en_; have ea_ := Option.some.inj (hx439_3.symm.trans hx443_3); injection ea_ with ea_ en_ ec_; subst ea_; subst ec_; clear en_) | ((with_reducible refine gate_callee (f := 21) rfl ?_); refine goesL_ (some 45) rfl rfl Tryz.func21 (by kernel_rfl) rfl #[.slice A439_3 ((rd_T33 l0 x5_1).f3).length c439_3, .int .i64 t442] rfl (by (try simp only [List.map_toArray, List.map_cons, List.map_nil]); first | done | rfl | (simp only [List.length_drop, List.length_take]; rfl)) ?_; (with_reducible refine (laws_heldWriteS.calls k1 _ _ ((rd_T33 l0 x5_1).f3) t442 t444 _ ?side1 ?side2 A9.out).mono ?_); (case side1 => repeat (first | exact HR443_3.out | (with_reducible refine Kd.C_alloc ?_ _) | (with_reducible refine Kd.C_drewN ?_ _) | (with_reducible refine Kd.C_drew ?_))); (case side2 => exact HC443_3.out); rintro e w' ⟨rfl, ⟨nd, rfl⟩⟩; refine ⟨_, rfl, ?_⟩))
    go_ret
    exact ⟨by first | rfl | (simp; done) | (simp [*]; done), by repeat (first | exact Drawn0.refl _ | apply Drawn0.step)⟩
   rw [if_neg c10] at H
   have c10b0 : decide (t444 < 0) = false := decide_eq_false c10
   clear c10
   have H' := AM_ H
   clear H
   have p439 : 0 ≤ (x5_1 : Int) := DT
   have q439 : x5_1 < (l0.length : Int) := DT
   obtain ⟨ad439, A439_2, c439_2, A439_3, c439_3, e439, hx439_0, hx439_1, hx439_2, hx439_3, hl439_2, hi439_2, hl439_3, hi439_3⟩ := at_T33 HR0.out x5_1 p439 q439
   cases e439
   have HR439_2 := AM_ hi439_2
   have HC439_2 := AM_ hl439_2
   clear hi439_2 hl439_2
   have HR439_3 := AM_ hi439_3
   have HC439_3 := AM_ hl439_3
   clear hi439_3 hl439_3
   replace p439 := eq_true p439
   replace q439 := eq_true q439
   have p440 : 0 ≤ (x5_1 : Int) := DT
   have q440 : x5_1 < (l0.length : Int) := DT
   obtain ⟨ad440, A440_2, c440_2, A440_3, c440_3, e440, hx440_0, hx440_1, hx440_2, hx440_3, hl440_2, hi440_2, hl440_3, hi440_3⟩ := at_T33 HR0.out x5_1 p440 q440
   obtain rfl : ad439 = ad440 := (by injection e440)
   have HR440_2 := AM_ hi440_2
   have HC440_2 := AM_ hl440_2
   clear hi440_2 hl440_2
   have HR440_3 := AM_ hi440_3
   have HC440_3 := AM_ hl440_3
   clear hi440_3 hl440_3
   replace p440 := eq_true p440
   replace q440 := eq_true q440
   have ea_ := Option.some.inj (hx439_2.symm.trans hx440_2)
   injection ea_ with ea_ en_ ec_
   subst ea_
   subst ec_
   clear en_
   have ea_ := Option.some.inj (hx439_3.symm.trans hx440_3)
   injection ea_ with ea_ en_ ec_
   subst ea_
   subst ec_
   clear en_
   have p441 : 0 ≤ (x5_1 : Int) := DT
   have q441 : x5_1 < (l0.length : Int) := DT
   obtain ⟨ad441, A441_2, c441_2, A441_3, c441_3, e441, hx441_0, hx441_1, hx441_2, hx441_3, hl441_2, hi441_2, hl441_3, hi441_3⟩ := at_T33 HR0.out x5_1 p441 q441
   obtain rfl : ad439 = ad441 := (by injection e441)
   have HR441_2 := AM_ hi441_2
   have HC441_2 := AM_ hl441_2
   clear hi441_2 hl441_2
   have HR441_3 := AM_ hi441_3
   have HC441_3 := AM_ hl441_3
   clear hi441_3 hl441_3
   replace p441 := eq_true p441
   replace q441 := eq_true q441
   have ea_ := Option.some.inj (hx439_2.symm.trans hx441_2)
   injection ea_ with ea_ en_ ec_
   subst ea_
   subst ec_
   clear en_
   have ea_ := Option.some.inj (hx439_3.symm.trans hx441_3)
   injection ea_ with ea_ en_ ec_
   subst ea_
   subst ec_
   clear en_
   go_wp2_with (first | ((with_reducible refine gate_callee (f := 20) rfl ?_); refine goesL_ (some 36) rfl rfl Tryz.func20 (by kernel_rfl) rfl #[.slice A439_2 ((rd_T33 l0 x5_1).f2).length c439_2, .int .i64 (wrap64 ((wrap64 (x1_1 + 1)) + 1))] rfl (by (try simp only [List.map_toArray, List.map_cons, List.map_nil]); first | done | rfl | (simp only [List.length_drop, List.length_take]; rfl)) ?_; (with_reducible refine (laws_heldReadMarkS.calls k1 _ _ ((rd_T33 l0 x5_1).f2) (wrap64 ((wrap64 (x1_1 + 1)) + 1)) t442 _ ?side1 ?side2 A7.out).mono ?_); (case side1 => repeat (first | exact HR441_2.out | (with_reducible refine Kd.C_alloc ?_ _) | (with_reducible refine Kd.C_drewN ?_ _) | (with_reducible refine Kd.C_drew ?_))); (case side2 => exact HC441_2.out); rintro e w' ⟨rfl, ⟨nd, rfl⟩⟩; refine ⟨_, rfl, ?_⟩; have p443 : 0 ≤ (x5_1 : Int) := DT; have q443 : x5_1 < (l0.length : Int) := DT; obtain ⟨ad443, A443_2, c443_2, A443_3, c443_3, e443, hx443_0, hx443_1, hx443_2, hx443_3, hl443_2, hi443_2, hl443_3, hi443_3⟩ := at_T33 HR0.out x5_1 p443 q443; obtain rfl : ad439 = ad443 := (by injection e443); have HR443_2 := AM_ hi443_2; have HC443_2 := AM_ hl443_2; clear hi443_2 hl443_2; have HR443_3 := AM_ hi443_3; have HC443_3 := AM_ hl443_3; clear hi443_3 hl443_3; replace p443 := eq_true p443; replace q443 := eq_true q443; have ea_ := Option.some.inj (hx439_2.symm.trans hx443_2); injection ea_ with ea_ en_ ec_; subst ea_; subst ec_; clear en_; have ea_ := Option.some.inj (hx439_3.symm.trans hx443_3); injection ea_ with ea_ en_ ec_; subst ea_; subst ec_; clear en_) | ((with_reducible refine gate_callee (f := 21) rfl ?_); refine goesL_ (some 45) rfl rfl Tryz.func21 (by kernel_rfl) rfl #[.slice A439_3 ((rd_T33 l0 x5_1).f3).length c439_3, .int .i64 t442] rfl (by (try simp only [List.map_toArray, List.map_cons, List.map_nil]); first | done | rfl | (simp only [List.length_drop, List.length_take]; rfl)) ?_; (with_reducible refine (laws_heldWriteS.calls k1 _ _ ((rd_T33 l0 x5_1).f3) t442 t444 _ ?side1 ?side2 A9.out).mono ?_); (case side1 => repeat (first | exact HR443_3.out | (with_reducible refine Kd.C_alloc ?_ _) | (with_reducible refine Kd.C_drewN ?_ _) | (with_reducible refine Kd.C_drew ?_))); (case side2 => exact HC443_3.out); rintro e w' ⟨rfl, ⟨nd, rfl⟩⟩; refine ⟨_, rfl, ?_⟩))
   go_roundg k1
   case measure => have := HK1.out; omega
   case rel => exact ⟨(t444), (wrap64 (x5_1 + 1)), (by first | rfl | (simp; done) | (simp [*]; done)), (by first | rfl | (simp; done) | (simp [*]; done)), H', ⟨by have := HK1.out; omega⟩, by repeat (first | exact Drawn0.refl _ | apply Drawn0.step)⟩

-- NOT PRINTED: function 3 (laws_FnExactParseHistory)

end Go.Proofs.YtdfbmaiboadodaaGreatDoor.PFnExactParseHistory
