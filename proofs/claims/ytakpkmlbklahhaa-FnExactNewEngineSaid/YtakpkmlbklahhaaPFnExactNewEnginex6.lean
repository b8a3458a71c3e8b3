-- Printed by a program of mine (wip/myprint.py), which runs the printer of the kit with contracts of mine beside it.
import Derived.Test.YtakpkmlbklahhaaPFnExactNewEnginex0
import Derived.Test.YtakpkmlbklahhaaPFnExactNewEnginex5
namespace Go.Proofs.Ytakpkmlbklahhaa.PFnExactNewEngine
open Go.RowKit Go.Proofs.YtakpkmlbklahhaaW.PrintWords Go.Proofs.YtakpkmlbklahhaaW.PrintLast Go.Proofs.YtakpkmlbklahhaaW.PrintMore
attribute [local go_sem] max2_int min2_int max_two min_two max_three min_three max_four min_four   -- for this text's walks alone
set_option linter.unusedVariables false
set_option linter.unusedSimpArgs false

/-! ### laws_markWriteS: function 146 -/
def laws_markWriteS.l0 : Nat → List (S133) → Int → Int → Option (Int × (List (S133)))
 | 0, _, _, _ => none
 | k + 1, x0, x1, x5 => if x5 < (x0.length : Int) then (if 0 ≤ x5 then ((some (x0.set (x5 : Int).toNat (⟨x1, (rd_T133 x0 x5).f1⟩ : S133) : List (S133))).bind fun y176 => (laws_markWriteS.l0 k (y176.set (x5 : Int).toNat (⟨(rd_T133 y176 x5).f0, wrap64 (x1 + 1)⟩ : S133)) (wrap64 ((wrap64 (x1 + 1)) + 1)) (wrap64 (x5 + 1)))) else (none)) else (some (x1, x0))
def laws_markWriteS.f (k : Nat) (l0 : List (S133)) (a1 : Int) : Option (Int × (List (S133))) := laws_markWriteS.l0 k l0 a1 0
theorem laws_markWriteS.mono_l : ∀ k, (∀ y0 y1 y2, LeO (laws_markWriteS.l0 k y0 y1 y2) (laws_markWriteS.l0 (k + 1) y0 y1 y2))
 | 0 => fun _ _ _ r h => by simp [laws_markWriteS.l0] at h
 | k + 1 => by
  have ih0 := laws_markWriteS.mono_l k
  ·intro y0 y1 y2
   unfold laws_markWriteS.l0
   repeat' first
   | (with_reducible exact ih0 _ _ _)
   | (with_reducible exact LeO.refl _)
   | (with_reducible exact LeO.none _)
   | (with_reducible refine LeO.ite ?_ ?_)
   | (with_reducible refine LeO.bind ?_ (fun _ => ?_))
   | exact ih0 _ _ _
   | exact LeO.none _
   | refine LeO.ite ?_ ?_
   | refine LeO.bind ?_ (fun _ => ?_)
theorem laws_markWriteS.mono : ∀ a0 a1 k, LeO (laws_markWriteS.f k a0 a1) (laws_markWriteS.f (k + 1) a0 a1) := by
 intro a0 a1 k
 have ih0 := laws_markWriteS.mono_l k
 unfold laws_markWriteS.f
 repeat' first
   | (with_reducible exact ih0 _ _ _)
   | (with_reducible exact LeO.refl _)
   | (with_reducible exact LeO.none _)
   | (with_reducible refine LeO.ite ?_ ?_)
   | (with_reducible refine LeO.bind ?_ (fun _ => ?_))
   | exact ih0 _ _ _
   | exact LeO.none _
   | refine LeO.ite ?_ ?_
   | refine LeO.bind ?_ (fun _ => ?_)
set_option maxHeartbeats 8000000 in
set_option maxRecDepth 100000 in
theorem laws_markWriteS.calls (k : Nat) (P0_ : Nat → Prop) (u9000_ : Value) (l0 : List (S133)) (a1 : Int) (r1 : Int) (r2 : List (S133)) (w0 w : World) (hB : Below w0.heap.size w0 w) (ho0 : Kd.R k133 133 w w0.heap.size P0_ u9000_ l0) (h : laws_markWriteS.f k l0 a1 = some (r1, r2)) :
  Calls Try.prog 146 #[u9000_, .int .i64 a1] w fun e w' => e = .returned (.int .i64 r1) ∧ Kd.R k133 133 w' w0.heap.size (fun k_ => (P0_ k_ ∨ w.heap.size ≤ k_)) u9000_ r2 ∧ Below w0.heap.size w0 w' ∧ Kept w w' (fun k_ => P0_ k_) := by
 have HO0 := AM_ (show Kd.R k133 133 w w0.heap.size (fun k_ => (P0_ k_ ∨ w.heap.size ≤ k_)) u9000_ l0 from Kd.R_mono ho0 (fun k_ hk => (.inl hk)))
 have HK := AM_ (Kept.refl w (fun k_ => P0_ k_))
 have HW0 := AM_ hB.size
 have HB := AM_ hB
 clear hB
 have H : (laws_markWriteS.l0 k l0 a1 0) = some (r1, r2) := h
 clear h
 have H' := AM_ H
 clear H
 go_enter Try.func146, Try.ntmps146
 go_wp2
 go_loopg [1, 5] k (fun kq v1 v5 w' => ∃ (x0_1 : List (S133)) (x1_1 : Int) (x5_1 : Int), v1 = .int .i64 x1_1 ∧ v5 = .int .i64 x5_1 ∧ Aside0 (laws_markWriteS.l0 kq x0_1 x1_1 x5_1 = some (r1, r2)) ∧ Aside0 (kq ≤ k) ∧ Aside0 (Kd.R k133 133 w' w0.heap.size (fun k_ => (P0_ k_ ∨ w.heap.size ≤ k_)) u9000_ x0_1) ∧ Aside0 (Kept w w' (fun k_ => P0_ k_)) ∧ Aside0 (Below w0.heap.size w0 w'))
 case atStart => exact ⟨(l0), (a1), (0), (by first | rfl | (simp; done) | (simp [*]; done)), (by first | rfl | (simp; done) | (simp [*]; done)), H', ⟨Nat.le_refl _⟩, ⟨RT HO0.out⟩, ⟨by repeat (first | (with_reducible first | exact HK.out | apply Kept.alloc | apply Kept.drewN | apply Kept.drew) | exact HK.out)⟩, ⟨BT HB.out⟩⟩
 case round =>
  clear H'
  try clear c1
  try clear p2
  obtain ⟨x0_1, x1_1, x5_1, rfl, rfl, HA, HK1, HO_0, HK, HB⟩ := hrel
  cases gk with
  | zero => exact absurd HA.out (by simp [laws_markWriteS.l0])
  | succ k1 =>
   have H := HA.out
   clear HA
   simp only [laws_markWriteS.l0] at H
   by_cases c3 : x5_1 < (x0_1.length : Int)
   rotate_left
   ·rw [if_neg c3] at H
    have c3b0 : decide (x5_1 < (x0_1.length : Int)) = false := decide_eq_false c3
    clear c3
    simp only [Option.some.injEq, Prod.mk.injEq] at H
    obtain ⟨rfl, rfl⟩ := H
    obtain ⟨Ao12, co12, eo12⟩ := Kd.R_slice HO_0.out
    subst eo12
    go_wp2
    go_ret
    exact ⟨by first | rfl | (simp [errW_none, errW_some] <;> rfl) | (simp [*, errW_none, errW_some] <;> rfl), RT HO_0.out, BT HB.out, by repeat (first | (with_reducible first | exact HK.out | apply Kept.alloc | apply Kept.drewN | apply Kept.drew) | exact HK.out)⟩
   rw [if_pos c3] at H
   have c3b0 : decide (x5_1 < (x0_1.length : Int)) = true := decide_eq_true c3
   clear c3
   by_cases c4 : 0 ≤ x5_1
   rotate_left
   ·rw [if_neg c4] at H
    exact absurd H (by simp)
   rw [if_pos c4] at H
   have c4b0 : decide (0 ≤ x5_1) = true := decide_eq_true c4
   clear c4
   obtain ⟨y176, hy176⟩ : ∃ y_ : List (S133), y_ = (x0_1.set (x5_1 : Int).toNat (⟨x1_1, (rd_T133 x0_1 x5_1).f1⟩ : S133)) := ⟨_, rfl⟩
   replace H : (laws_markWriteS.l0 k1 (y176.set (x5_1 : Int).toNat (⟨(rd_T133 y176 x5_1).f0, wrap64 (x1_1 + 1)⟩ : S133)) (wrap64 ((wrap64 (x1_1 + 1)) + 1)) (wrap64 (x5_1 + 1))) = some (r1, r2) := by first | (rw [hy176]; with_reducible exact H) | (have H2_ := (Option.bind_some _ _).symm.trans H; rw [hy176]; with_reducible exact H2_) | (have H2_ := (Option.bind_some _ _).symm.trans H; with_reducible exact H2_) | with_reducible exact H | (rw [hy176]; exact H) | exact H
   have Ny176 := AM_ hy176
   clear hy176
   obtain ⟨y177, hy177⟩ : ∃ y_ : List (S133), y_ = (y176.set (x5_1 : Int).toNat (⟨(rd_T133 y176 x5_1).f0, wrap64 (x1_1 + 1)⟩ : S133)) := ⟨_, rfl⟩
   replace H : (laws_markWriteS.l0 k1 y177 (wrap64 ((wrap64 (x1_1 + 1)) + 1)) (wrap64 (x5_1 + 1))) = some (r1, r2) := by first | (rw [hy177]; with_reducible exact H) | (have H2_ := (Option.bind_some _ _).symm.trans H; rw [hy177]; with_reducible exact H2_) | (have H2_ := (Option.bind_some _ _).symm.trans H; with_reducible exact H2_) | with_reducible exact H | (rw [hy177]; exact H) | exact H
   have Ny177 := AM_ hy177
   clear hy177
   have H' := AM_ H
   clear H
   obtain ⟨Ao7, co7, eo7⟩ := Kd.R_slice HO_0.out
   subst eo7
   have p5 : 0 ≤ (x5_1 : Int) := DT
   have q5 : (x5_1 : Int) < ((x0_1.length : Int) : Int) := DT
   obtain ⟨go5, co5, eo5, gb5, gl5, cl5, HG5⟩ := Kd.R_form HO_0.out (by omega)
   (first | cases eo5 | (injection eo5 with ea_ en_ ec_; (first | subst ea_ | (injection ea_ with ea_; subst ea_)); subst ec_; clear en_))
   have GB5 := AM_ gb5
   have GG5 := AM_ HG5
   clear gb5 gl5 HG5
   have HMgo5 := AM_ (show (P0_ go5 ∨ w.heap.size ≤ go5) from (HO_0.out.1 _ rfl))
   obtain ⟨ce5, hcl5, hM5, hcc5, hfr5⟩ := Kd.R_elem HO_0.out z133 (x5_1 : Int) p5 q5
   obtain rfl := k133_openM hM5
   have hx5_0 : wr.cell? ⟨go5, (x5_1 : Int).toNat * 2, none⟩ = some (.int .i64 ((rd_T133 x0_1 x5_1).f0)) := hcc5 0 _ rfl
   have hx5_1 : wr.cell? ⟨go5, (x5_1 : Int).toNat * 2 + 1, none⟩ = some (.int .i64 ((rd_T133 x0_1 x5_1).f1)) := hcc5 1 _ rfl
   have hf5_0 : wr.frozen? ⟨go5, (x5_1 : Int).toNat * 2, none⟩ = false := hfr5 0
   have hf5_1 : wr.frozen? ⟨go5, (x5_1 : Int).toNat * 2 + 1, none⟩ = false := hfr5 1
   clear hcl5 hcc5 hfr5; (try clear hM5)
   replace p5 := eq_true p5
   replace q5 := eq_true q5
   have HX8 := AM_ (show Kd.R k133 133 wr w0.heap.size (fun k_ => (P0_ k_ ∨ w.heap.size ≤ k_)) (.slice (some ⟨go5, 0, none⟩) x0_1.length co7) x0_1 from (RT HO_0.out))
   obtain ⟨ce8, hcl8, hM8, hcc8, hfr8⟩ := Kd.R_elem HX8.out z133 (x5_1 : Int) (DT) (by have h_ : (x5_1 : Int) < ((x0_1.length : Int) : Int) := DT; first | exact h_ | (have e_ := (Kd.R_reads' HO_0.out).1; omega) | simpa using h_)
   obtain rfl := k133_openM hM8
   have HP8 := Kd.R_seg HX8.out (x5_1 : Int) (DT) (by have h_ : (x5_1 : Int) < ((x0_1.length : Int) : Int) := DT; first | exact h_ | (have e_ := (Kd.R_reads' HO_0.out).1; omega) | simpa using h_) (seg := [.int .i64 x1_1]) (j := 0) hcl8 hcc8 (show 1 ≤ 2 from by decide) (x' := (⟨x1_1, (rd_T133 x0_1 x5_1).f1⟩ : S133)) (k133_mkM _ _ _ (⟨x1_1, (rd_T133 x0_1 x5_1).f1⟩ : S133) ) (fun _ hk => hk)
   have hx8_0 := hcc8 0 _ rfl
   (try simp only [show (k133).sz = 2 from rfl, Nat.mul_one, Nat.add_zero] at hx8_0)
   have hf8_0 := hfr8 0
   (try simp only [show (k133).sz = 2 from rfl, Nat.mul_one, Nat.add_zero] at hf8_0)
   clear hcl8 hcc8 hfr8; (try clear hM8)
   go_wp2_with (first | ((with_reducible refine gate_store (t := 3) (p := 16) rfl ?_); refine store_event (t := 3) (p := 16) (v := ?vo_w9) (w1 := (wr.setCell ⟨go5, (x5_1 : Int).toNat * 2, none⟩ (.int .i64 x1_1))) ?hg ?ho ?hn ?hr ?_; (case ho => rfl); (case hg => rfl); (case hn => rfl); (case hr => first | (go_simp; done) | (go_simp; rfl)); intro w9 hw; have hg : wr.grownBy w9 (some go5) := (by rw [hw]; exact HP8.2); have hp_ : Kd.R k133 133 w9 w0.heap.size (fun k_ => (P0_ k_ ∨ w.heap.size ≤ k_)) (.slice (some ⟨go5, 0, none⟩) x0_1.length co7) y176 := (by rw [hw, Ny176.out]; exact HP8.1); clear HP8; replace HB := AM_ ((by rw [hw]; exact below_set (HB.out) GB5.out : Below w0.heap.size w0 w9)); replace HK := AM_ (Kept.of_grown (S := (fun k_ => P0_ k_)) hg (by repeat (first | (with_reducible first | exact HK.out | apply Kept.alloc | apply Kept.drewN | apply Kept.drew) | exact HK.out)) (fun k_ e_ => (HO_0.out.1 k_ e_))); replace HO_0 := AM_ (hp_); clear hg hw hp_; have p6 : 0 ≤ (x5_1 : Int) := DT; have q6 : (x5_1 : Int) < ((x0_1.length : Int) : Int) := DT; obtain ⟨ce6, hcl6, hM6, hcc6, hfr6⟩ := Kd.R_elem HO_0.out z133 (x5_1 : Int) p6 q6; obtain rfl := k133_openM hM6; have hx6_0 : w9.cell? ⟨go5, (x5_1 : Int).toNat * 2, none⟩ = some (.int .i64 ((rd_T133 y176 x5_1).f0)) := hcc6 0 _ rfl; have hx6_1 : w9.cell? ⟨go5, (x5_1 : Int).toNat * 2 + 1, none⟩ = some (.int .i64 ((rd_T133 y176 x5_1).f1)) := hcc6 1 _ rfl; have hf6_0 : w9.frozen? ⟨go5, (x5_1 : Int).toNat * 2, none⟩ = false := hfr6 0; have hf6_1 : w9.frozen? ⟨go5, (x5_1 : Int).toNat * 2 + 1, none⟩ = false := hfr6 1; clear hcl6 hcc6 hfr6; (try clear hM6); replace p6 := eq_true p6; replace q6 := eq_true q6; have HX10 := AM_ (show Kd.R k133 133 w9 w0.heap.size (fun k_ => (P0_ k_ ∨ w.heap.size ≤ k_)) (.slice (some ⟨go5, 0, none⟩) x0_1.length co7) y176 from (RT HO_0.out)); obtain ⟨ce10, hcl10, hM10, hcc10, hfr10⟩ := Kd.R_elem HX10.out z133 (x5_1 : Int) (DT) (by have h_ : (x5_1 : Int) < ((x0_1.length : Int) : Int) := DT; first | exact h_ | (have e_ := (Kd.R_reads' HO_0.out).1; omega) | simpa using h_); obtain rfl := k133_openM hM10; have HP10 := Kd.R_seg HX10.out (x5_1 : Int) (DT) (by have h_ : (x5_1 : Int) < ((x0_1.length : Int) : Int) := DT; first | exact h_ | (have e_ := (Kd.R_reads' HO_0.out).1; omega) | simpa using h_) (seg := [.int .i64 (wrap64 (x1_1 + 1))]) (j := 1) hcl10 hcc10 (show 2 ≤ 2 from by decide) (x' := (⟨(rd_T133 y176 x5_1).f0, wrap64 (x1_1 + 1)⟩ : S133)) (k133_mkM _ _ _ (⟨(rd_T133 y176 x5_1).f0, wrap64 (x1_1 + 1)⟩ : S133) ) (fun _ hk => hk); have hx10_1 := hcc10 1 _ rfl; (try simp only [show (k133).sz = 2 from rfl, Nat.mul_one, Nat.add_zero] at hx10_1); have hf10_1 := hfr10 1; (try simp only [show (k133).sz = 2 from rfl, Nat.mul_one, Nat.add_zero] at hf10_1); clear hcl10 hcc10 hfr10; (try clear hM10)) | ((with_reducible refine gate_store (t := 3) (p := 23) rfl ?_); refine store_event (t := 3) (p := 23) (v := ?vo_w11) (w1 := (w9.setCell ⟨go5, (x5_1 : Int).toNat * 2 + 1, none⟩ (.int .i64 (wrap64 (x1_1 + 1))))) ?hg ?ho ?hn ?hr ?_; (case ho => rfl); (case hg => rfl); (case hn => rfl); (case hr => first | (go_simp; done) | (go_simp; rfl)); intro w11 hw; have hg : w9.grownBy w11 (some go5) := (by rw [hw]; exact HP10.2); have hp_ : Kd.R k133 133 w11 w0.heap.size (fun k_ => (P0_ k_ ∨ w.heap.size ≤ k_)) (.slice (some ⟨go5, 0, none⟩) x0_1.length co7) y177 := (by rw [hw, Ny177.out]; exact HP10.1); clear HP10; replace HB := AM_ ((by rw [hw]; exact below_set (HB.out) GB5.out : Below w0.heap.size w0 w11)); replace HK := AM_ (Kept.of_grown (S := (fun k_ => P0_ k_)) hg (by repeat (first | (with_reducible first | exact HK.out | apply Kept.alloc | apply Kept.drewN | apply Kept.drew) | exact HK.out)) (fun k_ e_ => (HO_0.out.1 k_ e_))); replace HO_0 := AM_ (hp_); clear hg hw hp_))
   go_roundg k1
   case measure => have := HK1.out; omega
   case rel => exact ⟨(y177), (wrap64 ((wrap64 (x1_1 + 1)) + 1)), (wrap64 (x5_1 + 1)), (by first | rfl | (simp; done) | (simp [*]; done)), (by first | rfl | (simp; done) | (simp [*]; done)), H', ⟨by have := HK1.out; omega⟩, ⟨RT HO_0.out⟩, ⟨by repeat (first | (with_reducible first | exact HK.out | apply Kept.alloc | apply Kept.drewN | apply Kept.drew) | exact HK.out)⟩, ⟨BT HB.out⟩⟩

/-! ### laws_markTransactionS: function 112 -/
/-- One cell of an element is written: what is there, and the row then. -/
theorem laws_markTransactionS_put {α : Type} {d : Kd α} {e g n cap : Nat} {W : World} {base : Nat} {ok : Nat → Prop} {xs : List α} (z : α) (i : Int) (j : Nat) (u : Value) (x' : α) (h : Kd.S d e W base ok (.slice (some ⟨g, 0, none⟩) n cap) xs) (h0 : 0 ≤ i) (h1 : i < n) (hj : j + 1 ≤ d.sz) (hu : u.oneCell' = true)
  (hM : ∀ (w1 : World) (oki : Nat → Prop) c, d.M w1 base oki (xs.getD i.toNat z) c → d.M w1 base oki x' (c.take j ++ [u] ++ c.drop (j + 1))) :
  (∀ j', W.frozen? ⟨g, i.toNat * d.sz + j', none⟩ = false) ∧ (∃ (oki : Nat → Prop) (c : List Value), d.M W base oki (xs.getD i.toNat z) c ∧ ∀ j' u', c[j']? = some u' → W.cell? ⟨g, i.toNat * d.sz + j', none⟩ = some u') ∧
  Kd.S d e (W.setCell ⟨g, i.toNat * d.sz + j, none⟩ u) base ok (.slice (some ⟨g, 0, none⟩) n cap) (xs.set i.toNat x') ∧ W.grownBy (W.setCell ⟨g, i.toNat * d.sz + j, none⟩ u) (some g) := by
 obtain ⟨oki, c, hcl, hMi, hcc, hfr, hoki, hH⟩ := Kd.S_elem h z i h0 h1
 obtain ⟨h2, h3⟩ := Kd.H_seg hH h0 h1 (seg := [u]) (j := j) hj (fun q hq => by rw [List.mem_singleton.1 hq]; exact hu)
 have h3' : W.grownBy (W.setCell ⟨g, i.toNat * d.sz + j, none⟩ u) (some g) := h3
 have hM1 : d.M (W.setCell ⟨g, i.toNat * d.sz + j, none⟩ u) base oki (xs.getD i.toNat z) c := Kd.M_step hMi (fun k hk hlt => h3'.block k hlt (fun he => (hoki k hk).2 (by injection he)))
 exact ⟨hfr, ⟨oki, c, hMi, hcc⟩, Kd.H_back h2 (hM _ _ _ hM1) (fun _ hk => hk), h3'⟩
def laws_markTransactionS.l0 : Nat → List (S68) → Int → Int → Option (Int × List (S68))
 | 0, _, _, _ => none
 | k + 1, x0, x1, x5 => if x5 < (x0.length : Int) then (if 0 ≤ x5 then ((laws_markReadMarkS.f k (rd_T68 x0 x5).f7 (wrap64 ((wrap64 ((wrap64 ((wrap64 ((wrap64 ((wrap64 ((wrap64 (x1 + 1)) + 1)) + 1)) + 1)) + 1)) + 1)) + 1))).bind fun b => (laws_markWriteS.f k (rd_T68 x0 x5).f8 b.1).bind fun c => (laws_markTransactionS.l0 k (x0.set (x5 : Int).toNat (⟨x1, wrap64 (x1 + 1), wrap64 ((wrap64 (x1 + 1)) + 1), wrap64 ((wrap64 ((wrap64 (x1 + 1)) + 1)) + 1), wrap64 ((wrap64 ((wrap64 ((wrap64 (x1 + 1)) + 1)) + 1)) + 1), wrap64 ((wrap64 ((wrap64 ((wrap64 ((wrap64 (x1 + 1)) + 1)) + 1)) + 1)) + 1), wrap64 ((wrap64 ((wrap64 ((wrap64 ((wrap64 ((wrap64 (x1 + 1)) + 1)) + 1)) + 1)) + 1)) + 1), b.2, c.2⟩ : S68)) c.1 (wrap64 (x5 + 1)))) else (none)) else (some (x1, x0))
def laws_markTransactionS.f (k : Nat) (l0 : List (S68)) (a1 : Int) : Option (Int × List (S68)) := laws_markTransactionS.l0 k l0 a1 0
theorem laws_markTransactionS.mono_l : ∀ k, (∀ y0 y1 y2, LeO (laws_markTransactionS.l0 k y0 y1 y2) (laws_markTransactionS.l0 (k + 1) y0 y1 y2))
 | 0 => fun _ _ _ r h => by simp [laws_markTransactionS.l0] at h
 | k + 1 => by
  have ih0 := laws_markTransactionS.mono_l k
  ·intro y0 y1 y2
   unfold laws_markTransactionS.l0
   repeat' first
   | (with_reducible exact ih0 _ _ _)
   | (with_reducible exact laws_markReadMarkS.mono _ _ _)
   | (with_reducible exact laws_markWriteS.mono _ _ _)
   | (with_reducible exact LeO.refl _)
   | (with_reducible exact LeO.none _)
   | (with_reducible refine LeO.ite ?_ ?_)
   | (with_reducible refine LeO.bind ?_ (fun _ => ?_))
   | exact ih0 _ _ _
   | exact laws_markReadMarkS.mono _ _ _
   | exact laws_markWriteS.mono _ _ _
   | exact LeO.none _
   | refine LeO.ite ?_ ?_
   | refine LeO.bind ?_ (fun _ => ?_)
theorem laws_markTransactionS.mono : ∀ a0 a1 k, LeO (laws_markTransactionS.f k a0 a1) (laws_markTransactionS.f (k + 1) a0 a1) := by
 intro a0 a1 k
 unfold laws_markTransactionS.f
 exact laws_markTransactionS.mono_l k _ _ _
set_option maxHeartbeats 8000000 in
set_option maxRecDepth 100000 in
theorem laws_markTransactionS.calls (k : Nat) (P0_ : Nat → Prop) (u9000_ : Value) (l0 : List (S68)) (a1 : Int) (r1 : Int) (r2 : List (S68)) (w0 w : World) (hB : Below w0.heap.size w0 w) (ho0 : Kd.S k68 68 w w0.heap.size P0_ u9000_ l0) (h : laws_markTransactionS.f k l0 a1 = some (r1, r2)) :
  Calls Try.prog 112 #[u9000_, .int .i64 a1] w fun e w' => e = .returned (.int .i64 r1) ∧ Kd.S k68 68 w' w0.heap.size P0_ u9000_ r2 ∧ Below w0.heap.size w0 w' ∧ Kept w w' (fun k_ => P0_ k_) := by
 have HO0 := AM_ ho0
 have HK := AM_ (Kept.refl w (fun k_ => P0_ k_))
 have HB := AM_ hB
 clear hB ho0
 have H : (laws_markTransactionS.l0 k l0 a1 0) = some (r1, r2) := h
 clear h
 have H' := AM_ H
 clear H
 go_enter Try.func112, Try.ntmps112
 go_wp2
 go_loopg [1, 5] k (fun kq v1 v5 w' => ∃ (x0_1 : List (S68)) (x1_1 : Int) (x5_1 : Int), v1 = .int .i64 x1_1 ∧ v5 = .int .i64 x5_1 ∧ Aside0 (laws_markTransactionS.l0 kq x0_1 x1_1 x5_1 = some (r1, r2)) ∧ Aside0 (kq ≤ k) ∧ Aside0 (Kd.S k68 68 w' w0.heap.size P0_ u9000_ x0_1) ∧ Aside0 (Kept w w' (fun k_ => P0_ k_)) ∧ Aside0 (Below w0.heap.size w0 w'))
 case atStart => exact ⟨(l0), (a1), (0), (by first | rfl | (simp; done) | (simp [*]; done)), (by first | rfl | (simp; done) | (simp [*]; done)), H', ⟨Nat.le_refl _⟩, ⟨ST HO0.out⟩, ⟨(by repeat (first | (with_reducible first | exact HK.out | apply Kept.alloc | apply Kept.drewN | apply Kept.drew) | exact HK.out))⟩, ⟨(BT HB.out)⟩⟩
 case round =>
  clear H' HO0 HK HB
  obtain ⟨x0_1, x1_1, x5_1, rfl, rfl, HA, HK1, HO_0, HK, HB⟩ := hrel
  cases gk with
  | zero => exact absurd HA.out (by simp [laws_markTransactionS.l0])
  | succ k1 =>
   have H := HA.out
   clear HA
   simp only [laws_markTransactionS.l0] at H
   by_cases c3 : x5_1 < (x0_1.length : Int)
   rotate_left
   ·rw [if_neg c3] at H
    have c3b0 : decide (x5_1 < (x0_1.length : Int)) = false := decide_eq_false c3
    clear c3
    simp only [Option.some.injEq, Prod.mk.injEq] at H
    obtain ⟨rfl, rfl⟩ := H
    obtain ⟨Ao24, co24, eo24⟩ := Kd.S_slice HO_0.out
    subst eo24
    go_wp2
    go_ret
    exact ⟨by first | rfl | (simp [errW_none, errW_some] <;> rfl) | (simp [*, errW_none, errW_some] <;> rfl), (ST HO_0.out), (BT HB.out), (by repeat (first | (with_reducible first | exact HK.out | apply Kept.alloc | apply Kept.drewN | apply Kept.drew) | exact HK.out))⟩
   rw [if_pos c3] at H
   have c3b0 : decide (x5_1 < (x0_1.length : Int)) = true := decide_eq_true c3
   by_cases c4 : 0 ≤ x5_1
   rotate_left
   ·rw [if_neg c4] at H
    exact absurd H (by simp)
   rw [if_pos c4] at H
   have c4b0 : decide (0 ≤ x5_1) = true := decide_eq_true c4
   replace H := Option.bind_eq_some_iff.mp H
   obtain ⟨⟨t1, t2⟩, A70, H⟩ := H
   replace H := Option.bind_eq_some_iff.mp H
   obtain ⟨⟨t3, t4⟩, A80, H⟩ := H
   replace H : (laws_markTransactionS.l0 k1 (x0_1.set (x5_1 : Int).toNat (⟨x1_1, wrap64 (x1_1 + 1), wrap64 ((wrap64 (x1_1 + 1)) + 1), wrap64 ((wrap64 ((wrap64 (x1_1 + 1)) + 1)) + 1), wrap64 ((wrap64 ((wrap64 ((wrap64 (x1_1 + 1)) + 1)) + 1)) + 1), wrap64 ((wrap64 ((wrap64 ((wrap64 ((wrap64 (x1_1 + 1)) + 1)) + 1)) + 1)) + 1), wrap64 ((wrap64 ((wrap64 ((wrap64 ((wrap64 ((wrap64 (x1_1 + 1)) + 1)) + 1)) + 1)) + 1)) + 1), t2, t4⟩ : S68)) t3 (wrap64 (x5_1 + 1))) = some (r1, r2) := H
   have A7 := AM_ A70
   have A8 := AM_ A80
   clear A70 A80
   have H' := AM_ H
   clear H
   have C3 := AM_ c3
   have C4 := AM_ c4
   clear c3 c4
   obtain ⟨Ao11, co11, eo11⟩ := Kd.S_slice HO_0.out
   subst eo11
   obtain ⟨go5, co5, eo5, gb5, gl5, cl5, HG5⟩ := Kd.S_form HO_0.out (by have := C3.out; have := C4.out; omega)
   (first | cases eo5 | (injection eo5 with ea_ en_ ec_; (first | subst ea_ | (injection ea_ with ea_; subst ea_)); subst ec_; clear en_))
   have GB5 := AM_ gb5
   clear gb5 gl5 HG5
   have HGO := AM_ (show (P0_ go5 ∨ w.heap.size ≤ go5) from .inl ((Kd.S_R HO_0.out).1 _ rfl))
   have HGET : ∀ e_ : S68, Aside0 ((x0_1.set (x5_1 : Int).toNat e_).getD (x5_1 : Int).toNat z68 = e_) := fun e_ => ⟨by rw [List.getD_eq_getElem?_getD, List.getElem?_set_self (by have := C3.out; have := C4.out; omega)]; rfl⟩
   have hp0 := laws_markTransactionS_put z68 x5_1 0 (.int .i64 (x1_1)) (⟨x1_1, (rd_T68 x0_1 x5_1).f1, (rd_T68 x0_1 x5_1).f2, (rd_T68 x0_1 x5_1).f3, (rd_T68 x0_1 x5_1).f4, (rd_T68 x0_1 x5_1).f5, (rd_T68 x0_1 x5_1).f6, (rd_T68 x0_1 x5_1).f7, (rd_T68 x0_1 x5_1).f8⟩ : S68) (show Kd.S k68 68 wr w0.heap.size P0_ (.slice (some ⟨go5, 0, none⟩) x0_1.length co11) x0_1 from (ST HO_0.out)) C4.out C3.out (show 1 ≤ 9 from by decide) rfl (by intro w1_ oki_ c_ hm_; obtain ⟨v7, v8, rfl, g7, g8⟩ := k68_openM hm_; exact k68_mkM w1_ _ _ (⟨x1_1, (rd_T68 x0_1 x5_1).f1, (rd_T68 x0_1 x5_1).f2, (rd_T68 x0_1 x5_1).f3, (rd_T68 x0_1 x5_1).f4, (rd_T68 x0_1 x5_1).f5, (rd_T68 x0_1 x5_1).f6, (rd_T68 x0_1 x5_1).f7, (rd_T68 x0_1 x5_1).f8⟩ : S68) g7 g8)
   obtain ⟨hfr0, ⟨oki0, ce0, hM0, hcc0⟩, HP0⟩ := hp0
   obtain ⟨v70, v80, rfl, _, _⟩ := k68_openM hM0
   have hx0 : wr.cell? ⟨go5, (x5_1 : Int).toNat * 9, none⟩ = some (.int .i64 ((rd_T68 x0_1 x5_1).f0)) := hcc0 0 _ rfl
   have hf0 : wr.frozen? ⟨go5, (x5_1 : Int).toNat * 9, none⟩ = false := hfr0 0
   have p5 : 0 ≤ (x5_1 : Int) := C4.out; have q5 : (x5_1 : Int) < ((x0_1.length : Int) : Int) := C3.out; replace p5 := eq_true p5; replace q5 := eq_true q5
   clear hfr0 hcc0 hM0
   go_wp2_with (first | ((with_reducible refine gate_store (t := 3) (p := 16) rfl ?_); refine store_event (t := 3) (p := 16) (v := ?vo_w20) (w1 := (wr.setCell ⟨go5, (x5_1 : Int).toNat * 9, none⟩ (.int .i64 (x1_1)))) ?hg ?ho ?hn ?hr ?_; (case ho => rfl); (case hg => rfl); (case hn => rfl); (case hr => first | (go_simp; done) | (go_simp; rfl)); intro w20 hw; have hg : wr.grownBy w20 (some go5) := (by rw [hw]; exact HP0.2); have hp_ : Kd.S k68 68 w20 w0.heap.size P0_ (.slice (some ⟨go5, 0, none⟩) x0_1.length co11) (x0_1.set (x5_1 : Int).toNat (⟨x1_1, (rd_T68 x0_1 x5_1).f1, (rd_T68 x0_1 x5_1).f2, (rd_T68 x0_1 x5_1).f3, (rd_T68 x0_1 x5_1).f4, (rd_T68 x0_1 x5_1).f5, (rd_T68 x0_1 x5_1).f6, (rd_T68 x0_1 x5_1).f7, (rd_T68 x0_1 x5_1).f8⟩ : S68)) := (by rw [hw]; have h_ := HP0.1; exact h_); clear HP0 hx0 hf0 p5 q5; replace HO_0 := AM_ hp_; replace HB := AM_ ((by rw [hw]; exact below_set (HB.out) GB5.out : Below w0.heap.size w0 w20)); replace HK := AM_ (Kept.of_grown (S := (fun k_ => P0_ k_)) hg (by repeat (first | (with_reducible first | exact HK.out | apply Kept.alloc | apply Kept.drewN | apply Kept.drew) | exact HK.out)) (fun k_ e_ => by injection e_ with e_; subst e_; exact HGO.out)); clear hg hw hp_; have hp1 := laws_markTransactionS_put z68 x5_1 1 (.int .i64 (wrap64 (x1_1 + 1))) (⟨x1_1, wrap64 (x1_1 + 1), (rd_T68 x0_1 x5_1).f2, (rd_T68 x0_1 x5_1).f3, (rd_T68 x0_1 x5_1).f4, (rd_T68 x0_1 x5_1).f5, (rd_T68 x0_1 x5_1).f6, (rd_T68 x0_1 x5_1).f7, (rd_T68 x0_1 x5_1).f8⟩ : S68) (show Kd.S k68 68 w20 w0.heap.size P0_ (.slice (some ⟨go5, 0, none⟩) x0_1.length co11) (x0_1.set (x5_1 : Int).toNat (⟨x1_1, (rd_T68 x0_1 x5_1).f1, (rd_T68 x0_1 x5_1).f2, (rd_T68 x0_1 x5_1).f3, (rd_T68 x0_1 x5_1).f4, (rd_T68 x0_1 x5_1).f5, (rd_T68 x0_1 x5_1).f6, (rd_T68 x0_1 x5_1).f7, (rd_T68 x0_1 x5_1).f8⟩ : S68)) from (ST HO_0.out)) C4.out C3.out (show 2 ≤ 9 from by decide) rfl (by intro w1_ oki_ c_ hm_; obtain ⟨v7, v8, rfl, g7, g8⟩ := k68_openM hm_; simp only [(HGET (⟨x1_1, (rd_T68 x0_1 x5_1).f1, (rd_T68 x0_1 x5_1).f2, (rd_T68 x0_1 x5_1).f3, (rd_T68 x0_1 x5_1).f4, (rd_T68 x0_1 x5_1).f5, (rd_T68 x0_1 x5_1).f6, (rd_T68 x0_1 x5_1).f7, (rd_T68 x0_1 x5_1).f8⟩ : S68)).out] at g7 g8 ⊢; exact k68_mkM w1_ _ _ (⟨x1_1, wrap64 (x1_1 + 1), (rd_T68 x0_1 x5_1).f2, (rd_T68 x0_1 x5_1).f3, (rd_T68 x0_1 x5_1).f4, (rd_T68 x0_1 x5_1).f5, (rd_T68 x0_1 x5_1).f6, (rd_T68 x0_1 x5_1).f7, (rd_T68 x0_1 x5_1).f8⟩ : S68) g7 g8); obtain ⟨hfr1, ⟨oki1, ce1, hM1, hcc1⟩, HP1⟩ := hp1; rw [(HGET (⟨x1_1, (rd_T68 x0_1 x5_1).f1, (rd_T68 x0_1 x5_1).f2, (rd_T68 x0_1 x5_1).f3, (rd_T68 x0_1 x5_1).f4, (rd_T68 x0_1 x5_1).f5, (rd_T68 x0_1 x5_1).f6, (rd_T68 x0_1 x5_1).f7, (rd_T68 x0_1 x5_1).f8⟩ : S68)).out] at hM1; obtain ⟨v71, v81, rfl, _, _⟩ := k68_openM hM1; have hx1 : w20.cell? ⟨go5, (x5_1 : Int).toNat * 9 + 1, none⟩ = some (.int .i64 ((rd_T68 x0_1 x5_1).f1)) := hcc1 1 _ rfl; have hf1 : w20.frozen? ⟨go5, (x5_1 : Int).toNat * 9 + 1, none⟩ = false := hfr1 1; have p5 : 0 ≤ (x5_1 : Int) := C4.out; have q5 : (x5_1 : Int) < ((x0_1.length : Int) : Int) := C3.out; replace p5 := eq_true p5; replace q5 := eq_true q5; clear hfr1 hcc1 hM1) | ((with_reducible refine gate_store (t := 3) (p := 23) rfl ?_); refine store_event (t := 3) (p := 23) (v := ?vo_w21) (w1 := (w20.setCell ⟨go5, (x5_1 : Int).toNat * 9 + 1, none⟩ (.int .i64 (wrap64 (x1_1 + 1))))) ?hg ?ho ?hn ?hr ?_; (case ho => rfl); (case hg => rfl); (case hn => rfl); (case hr => first | (go_simp; done) | (go_simp; rfl)); intro w21 hw; have hg : w20.grownBy w21 (some go5) := (by rw [hw]; exact HP1.2); have hp_ : Kd.S k68 68 w21 w0.heap.size P0_ (.slice (some ⟨go5, 0, none⟩) x0_1.length co11) (x0_1.set (x5_1 : Int).toNat (⟨x1_1, wrap64 (x1_1 + 1), (rd_T68 x0_1 x5_1).f2, (rd_T68 x0_1 x5_1).f3, (rd_T68 x0_1 x5_1).f4, (rd_T68 x0_1 x5_1).f5, (rd_T68 x0_1 x5_1).f6, (rd_T68 x0_1 x5_1).f7, (rd_T68 x0_1 x5_1).f8⟩ : S68)) := (by rw [hw]; have h_ := HP1.1; rw [List.set_set] at h_; exact h_); clear HP1 hx1 hf1 p5 q5; replace HO_0 := AM_ hp_; replace HB := AM_ ((by rw [hw]; exact below_set (HB.out) GB5.out : Below w0.heap.size w0 w21)); replace HK := AM_ (Kept.of_grown (S := (fun k_ => P0_ k_)) hg (by repeat (first | (with_reducible first | exact HK.out | apply Kept.alloc | apply Kept.drewN | apply Kept.drew) | exact HK.out)) (fun k_ e_ => by injection e_ with e_; subst e_; exact HGO.out)); clear hg hw hp_; have hp2 := laws_markTransactionS_put z68 x5_1 2 (.int .i64 (wrap64 ((wrap64 (x1_1 + 1)) + 1))) (⟨x1_1, wrap64 (x1_1 + 1), wrap64 ((wrap64 (x1_1 + 1)) + 1), (rd_T68 x0_1 x5_1).f3, (rd_T68 x0_1 x5_1).f4, (rd_T68 x0_1 x5_1).f5, (rd_T68 x0_1 x5_1).f6, (rd_T68 x0_1 x5_1).f7, (rd_T68 x0_1 x5_1).f8⟩ : S68) (show Kd.S k68 68 w21 w0.heap.size P0_ (.slice (some ⟨go5, 0, none⟩) x0_1.length co11) (x0_1.set (x5_1 : Int).toNat (⟨x1_1, wrap64 (x1_1 + 1), (rd_T68 x0_1 x5_1).f2, (rd_T68 x0_1 x5_1).f3, (rd_T68 x0_1 x5_1).f4, (rd_T68 x0_1 x5_1).f5, (rd_T68 x0_1 x5_1).f6, (rd_T68 x0_1 x5_1).f7, (rd_T68 x0_1 x5_1).f8⟩ : S68)) from (ST HO_0.out)) C4.out C3.out (show 3 ≤ 9 from by decide) rfl (by intro w1_ oki_ c_ hm_; obtain ⟨v7, v8, rfl, g7, g8⟩ := k68_openM hm_; simp only [(HGET (⟨x1_1, wrap64 (x1_1 + 1), (rd_T68 x0_1 x5_1).f2, (rd_T68 x0_1 x5_1).f3, (rd_T68 x0_1 x5_1).f4, (rd_T68 x0_1 x5_1).f5, (rd_T68 x0_1 x5_1).f6, (rd_T68 x0_1 x5_1).f7, (rd_T68 x0_1 x5_1).f8⟩ : S68)).out] at g7 g8 ⊢; exact k68_mkM w1_ _ _ (⟨x1_1, wrap64 (x1_1 + 1), wrap64 ((wrap64 (x1_1 + 1)) + 1), (rd_T68 x0_1 x5_1).f3, (rd_T68 x0_1 x5_1).f4, (rd_T68 x0_1 x5_1).f5, (rd_T68 x0_1 x5_1).f6, (rd_T68 x0_1 x5_1).f7, (rd_T68 x0_1 x5_1).f8⟩ : S68) g7 g8); obtain ⟨hfr2, ⟨oki2, ce2, hM2, hcc2⟩, HP2⟩ := hp2; rw [(HGET (⟨x1_1, wrap64 (x1_1 + 1), (rd_T68 x0_1 x5_1).f2, (rd_T68 x0_1 x5_1).f3, (rd_T68 x0_1 x5_1).f4, (rd_T68 x0_1 x5_1).f5, (rd_T68 x0_1 x5_1).f6, (rd_T68 x0_1 x5_1).f7, (rd_T68 x0_1 x5_1).f8⟩ : S68)).out] at hM2; obtain ⟨v72, v82, rfl, _, _⟩ := k68_openM hM2; have hx2 : w21.cell? ⟨go5, (x5_1 : Int).toNat * 9 + 2, none⟩ = some (.int .i64 ((rd_T68 x0_1 x5_1).f2)) := hcc2 2 _ rfl; have hf2 : w21.frozen? ⟨go5, (x5_1 : Int).toNat * 9 + 2, none⟩ = false := hfr2 2; have p5 : 0 ≤ (x5_1 : Int) := C4.out; have q5 : (x5_1 : Int) < ((x0_1.length : Int) : Int) := C3.out; replace p5 := eq_true p5; replace q5 := eq_true q5; clear hfr2 hcc2 hM2) | ((with_reducible refine gate_store (t := 3) (p := 30) rfl ?_); refine store_event (t := 3) (p := 30) (v := ?vo_w22) (w1 := (w21.setCell ⟨go5, (x5_1 : Int).toNat * 9 + 2, none⟩ (.int .i64 (wrap64 ((wrap64 (x1_1 + 1)) + 1))))) ?hg ?ho ?hn ?hr ?_; (case ho => rfl); (case hg => rfl); (case hn => rfl); (case hr => first | (go_simp; done) | (go_simp; rfl)); intro w22 hw; have hg : w21.grownBy w22 (some go5) := (by rw [hw]; exact HP2.2); have hp_ : Kd.S k68 68 w22 w0.heap.size P0_ (.slice (some ⟨go5, 0, none⟩) x0_1.length co11) (x0_1.set (x5_1 : Int).toNat (⟨x1_1, wrap64 (x1_1 + 1), wrap64 ((wrap64 (x1_1 + 1)) + 1), (rd_T68 x0_1 x5_1).f3, (rd_T68 x0_1 x5_1).f4, (rd_T68 x0_1 x5_1).f5, (rd_T68 x0_1 x5_1).f6, (rd_T68 x0_1 x5_1).f7, (rd_T68 x0_1 x5_1).f8⟩ : S68)) := (by rw [hw]; have h_ := HP2.1; rw [List.set_set] at h_; exact h_); clear HP2 hx2 hf2 p5 q5; replace HO_0 := AM_ hp_; replace HB := AM_ ((by rw [hw]; exact below_set (HB.out) GB5.out : Below w0.heap.size w0 w22)); replace HK := AM_ (Kept.of_grown (S := (fun k_ => P0_ k_)) hg (by repeat (first | (with_reducible first | exact HK.out | apply Kept.alloc | apply Kept.drewN | apply Kept.drew) | exact HK.out)) (fun k_ e_ => by injection e_ with e_; subst e_; exact HGO.out)); clear hg hw hp_; have hp3 := laws_markTransactionS_put z68 x5_1 3 (.int .i64 (wrap64 ((wrap64 ((wrap64 (x1_1 + 1)) + 1)) + 1))) (⟨x1_1, wrap64 (x1_1 + 1), wrap64 ((wrap64 (x1_1 + 1)) + 1), wrap64 ((wrap64 ((wrap64 (x1_1 + 1)) + 1)) + 1), (rd_T68 x0_1 x5_1).f4, (rd_T68 x0_1 x5_1).f5, (rd_T68 x0_1 x5_1).f6, (rd_T68 x0_1 x5_1).f7, (rd_T68 x0_1 x5_1).f8⟩ : S68) (show Kd.S k68 68 w22 w0.heap.size P0_ (.slice (some ⟨go5, 0, none⟩) x0_1.length co11) (x0_1.set (x5_1 : Int).toNat (⟨x1_1, wrap64 (x1_1 + 1), wrap64 ((wrap64 (x1_1 + 1)) + 1), (rd_T68 x0_1 x5_1).f3, (rd_T68 x0_1 x5_1).f4, (rd_T68 x0_1 x5_1).f5, (rd_T68 x0_1 x5_1).f6, (rd_T68 x0_1 x5_1).f7, (rd_T68 x0_1 x5_1).f8⟩ : S68)) from (ST HO_0.out)) C4.out C3.out (show 4 ≤ 9 from by decide) rfl (by intro w1_ oki_ c_ hm_; obtain ⟨v7, v8, rfl, g7, g8⟩ := k68_openM hm_; simp only [(HGET (⟨x1_1, wrap64 (x1_1 + 1), wrap64 ((wrap64 (x1_1 + 1)) + 1), (rd_T68 x0_1 x5_1).f3, (rd_T68 x0_1 x5_1).f4, (rd_T68 x0_1 x5_1).f5, (rd_T68 x0_1 x5_1).f6, (rd_T68 x0_1 x5_1).f7, (rd_T68 x0_1 x5_1).f8⟩ : S68)).out] at g7 g8 ⊢; exact k68_mkM w1_ _ _ (⟨x1_1, wrap64 (x1_1 + 1), wrap64 ((wrap64 (x1_1 + 1)) + 1), wrap64 ((wrap64 ((wrap64 (x1_1 + 1)) + 1)) + 1), (rd_T68 x0_1 x5_1).f4, (rd_T68 x0_1 x5_1).f5, (rd_T68 x0_1 x5_1).f6, (rd_T68 x0_1 x5_1).f7, (rd_T68 x0_1 x5_1).f8⟩ : S68) g7 g8); obtain ⟨hfr3, ⟨oki3, ce3, hM3, hcc3⟩, HP3⟩ := hp3; rw [(HGET (⟨x1_1, wrap64 (x1_1 + 1), wrap64 ((wrap64 (x1_1 + 1)) + 1), (rd_T68 x0_1 x5_1).f3, (rd_T68 x0_1 x5_1).f4, (rd_T68 x0_1 x5_1).f5, (rd_T68 x0_1 x5_1).f6, (rd_T68 x0_1 x5_1).f7, (rd_T68 x0_1 x5_1).f8⟩ : S68)).out] at hM3; obtain ⟨v73, v83, rfl, _, _⟩ := k68_openM hM3; have hx3 : w22.cell? ⟨go5, (x5_1 : Int).toNat * 9 + 3, none⟩ = some (.int .i64 ((rd_T68 x0_1 x5_1).f3)) := hcc3 3 _ rfl; have hf3 : w22.frozen? ⟨go5, (x5_1 : Int).toNat * 9 + 3, none⟩ = false := hfr3 3; have p5 : 0 ≤ (x5_1 : Int) := C4.out; have q5 : (x5_1 : Int) < ((x0_1.length : Int) : Int) := C3.out; replace p5 := eq_true p5; replace q5 := eq_true q5; clear hfr3 hcc3 hM3) | ((with_reducible refine gate_store (t := 3) (p := 37) rfl ?_); refine store_event (t := 3) (p := 37) (v := ?vo_w23) (w1 := (w22.setCell ⟨go5, (x5_1 : Int).toNat * 9 + 3, none⟩ (.int .i64 (wrap64 ((wrap64 ((wrap64 (x1_1 + 1)) + 1)) + 1))))) ?hg ?ho ?hn ?hr ?_; (case ho => rfl); (case hg => rfl); (case hn => rfl); (case hr => first | (go_simp; done) | (go_simp; rfl)); intro w23 hw; have hg : w22.grownBy w23 (some go5) := (by rw [hw]; exact HP3.2); have hp_ : Kd.S k68 68 w23 w0.heap.size P0_ (.slice (some ⟨go5, 0, none⟩) x0_1.length co11) (x0_1.set (x5_1 : Int).toNat (⟨x1_1, wrap64 (x1_1 + 1), wrap64 ((wrap64 (x1_1 + 1)) + 1), wrap64 ((wrap64 ((wrap64 (x1_1 + 1)) + 1)) + 1), (rd_T68 x0_1 x5_1).f4, (rd_T68 x0_1 x5_1).f5, (rd_T68 x0_1 x5_1).f6, (rd_T68 x0_1 x5_1).f7, (rd_T68 x0_1 x5_1).f8⟩ : S68)) := (by rw [hw]; have h_ := HP3.1; rw [List.set_set] at h_; exact h_); clear HP3 hx3 hf3 p5 q5; replace HO_0 := AM_ hp_; replace HB := AM_ ((by rw [hw]; exact below_set (HB.out) GB5.out : Below w0.heap.size w0 w23)); replace HK := AM_ (Kept.of_grown (S := (fun k_ => P0_ k_)) hg (by repeat (first | (with_reducible first | exact HK.out | apply Kept.alloc | apply Kept.drewN | apply Kept.drew) | exact HK.out)) (fun k_ e_ => by injection e_ with e_; subst e_; exact HGO.out)); clear hg hw hp_; have hp4 := laws_markTransactionS_put z68 x5_1 4 (.int .i64 (wrap64 ((wrap64 ((wrap64 ((wrap64 (x1_1 + 1)) + 1)) + 1)) + 1))) (⟨x1_1, wrap64 (x1_1 + 1), wrap64 ((wrap64 (x1_1 + 1)) + 1), wrap64 ((wrap64 ((wrap64 (x1_1 + 1)) + 1)) + 1), wrap64 ((wrap64 ((wrap64 ((wrap64 (x1_1 + 1)) + 1)) + 1)) + 1), (rd_T68 x0_1 x5_1).f5, (rd_T68 x0_1 x5_1).f6, (rd_T68 x0_1 x5_1).f7, (rd_T68 x0_1 x5_1).f8⟩ : S68) (show Kd.S k68 68 w23 w0.heap.size P0_ (.slice (some ⟨go5, 0, none⟩) x0_1.length co11) (x0_1.set (x5_1 : Int).toNat (⟨x1_1, wrap64 (x1_1 + 1), wrap64 ((wrap64 (x1_1 + 1)) + 1), wrap64 ((wrap64 ((wrap64 (x1_1 + 1)) + 1)) + 1), (rd_T68 x0_1 x5_1).f4, (rd_T68 x0_1 x5_1).f5, (rd_T68 x0_1 x5_1).f6, (rd_T68 x0_1 x5_1).f7, (rd_T68 x0_1 x5_1).f8⟩ : S68)) from (ST HO_0.out)) C4.out C3.out (show 5 ≤ 9 from by decide) rfl (by intro w1_ oki_ c_ hm_; obtain ⟨v7, v8, rfl, g7, g8⟩ := k68_openM hm_; simp only [(HGET (⟨x1_1, wrap64 (x1_1 + 1), wrap64 ((wrap64 (x1_1 + 1)) + 1), wrap64 ((wrap64 ((wrap64 (x1_1 + 1)) + 1)) + 1), (rd_T68 x0_1 x5_1).f4, (rd_T68 x0_1 x5_1).f5, (rd_T68 x0_1 x5_1).f6, (rd_T68 x0_1 x5_1).f7, (rd_T68 x0_1 x5_1).f8⟩ : S68)).out] at g7 g8 ⊢; exact k68_mkM w1_ _ _ (⟨x1_1, wrap64 (x1_1 + 1), wrap64 ((wrap64 (x1_1 + 1)) + 1), wrap64 ((wrap64 ((wrap64 (x1_1 + 1)) + 1)) + 1), wrap64 ((wrap64 ((wrap64 ((wrap64 (x1_1 + 1)) + 1)) + 1)) + 1), (rd_T68 x0_1 x5_1).f5, (rd_T68 x0_1 x5_1).f6, (rd_T68 x0_1 x5_1).f7, (rd_T68 x0_1 x5_1).f8⟩ : S68) g7 g8); obtain ⟨hfr4, ⟨oki4, ce4, hM4, hcc4⟩, HP4⟩ := hp4; rw [(HGET (⟨x1_1, wrap64 (x1_1 + 1), wrap64 ((wrap64 (x1_1 + 1)) + 1), wrap64 ((wrap64 ((wrap64 (x1_1 + 1)) + 1)) + 1), (rd_T68 x0_1 x5_1).f4, (rd_T68 x0_1 x5_1).f5, (rd_T68 x0_1 x5_1).f6, (rd_T68 x0_1 x5_1).f7, (rd_T68 x0_1 x5_1).f8⟩ : S68)).out] at hM4; obtain ⟨v74, v84, rfl, _, _⟩ := k68_openM hM4; have hx4 : w23.cell? ⟨go5, (x5_1 : Int).toNat * 9 + 4, none⟩ = some (.int .i64 ((rd_T68 x0_1 x5_1).f4)) := hcc4 4 _ rfl; have hf4 : w23.frozen? ⟨go5, (x5_1 : Int).toNat * 9 + 4, none⟩ = false := hfr4 4; have p5 : 0 ≤ (x5_1 : Int) := C4.out; have q5 : (x5_1 : Int) < ((x0_1.length : Int) : Int) := C3.out; replace p5 := eq_true p5; replace q5 := eq_true q5; clear hfr4 hcc4 hM4) | ((with_reducible refine gate_store (t := 3) (p := 44) rfl ?_); refine store_event (t := 3) (p := 44) (v := ?vo_w24) (w1 := (w23.setCell ⟨go5, (x5_1 : Int).toNat * 9 + 4, none⟩ (.int .i64 (wrap64 ((wrap64 ((wrap64 ((wrap64 (x1_1 + 1)) + 1)) + 1)) + 1))))) ?hg ?ho ?hn ?hr ?_; (case ho => rfl); (case hg => rfl); (case hn => rfl); (case hr => first | (go_simp; done) | (go_simp; rfl)); intro w24 hw; have hg : w23.grownBy w24 (some go5) := (by rw [hw]; exact HP4.2); have hp_ : Kd.S k68 68 w24 w0.heap.size P0_ (.slice (some ⟨go5, 0, none⟩) x0_1.length co11) (x0_1.set (x5_1 : Int).toNat (⟨x1_1, wrap64 (x1_1 + 1), wrap64 ((wrap64 (x1_1 + 1)) + 1), wrap64 ((wrap64 ((wrap64 (x1_1 + 1)) + 1)) + 1), wrap64 ((wrap64 ((wrap64 ((wrap64 (x1_1 + 1)) + 1)) + 1)) + 1), (rd_T68 x0_1 x5_1).f5, (rd_T68 x0_1 x5_1).f6, (rd_T68 x0_1 x5_1).f7, (rd_T68 x0_1 x5_1).f8⟩ : S68)) := (by rw [hw]; have h_ := HP4.1; rw [List.set_set] at h_; exact h_); clear HP4 hx4 hf4 p5 q5; replace HO_0 := AM_ hp_; replace HB := AM_ ((by rw [hw]; exact below_set (HB.out) GB5.out : Below w0.heap.size w0 w24)); replace HK := AM_ (Kept.of_grown (S := (fun k_ => P0_ k_)) hg (by repeat (first | (with_reducible first | exact HK.out | apply Kept.alloc | apply Kept.drewN | apply Kept.drew) | exact HK.out)) (fun k_ e_ => by injection e_ with e_; subst e_; exact HGO.out)); clear hg hw hp_; have hp5 := laws_markTransactionS_put z68 x5_1 5 (.int .i64 (wrap64 ((wrap64 ((wrap64 ((wrap64 ((wrap64 (x1_1 + 1)) + 1)) + 1)) + 1)) + 1))) (⟨x1_1, wrap64 (x1_1 + 1), wrap64 ((wrap64 (x1_1 + 1)) + 1), wrap64 ((wrap64 ((wrap64 (x1_1 + 1)) + 1)) + 1), wrap64 ((wrap64 ((wrap64 ((wrap64 (x1_1 + 1)) + 1)) + 1)) + 1), wrap64 ((wrap64 ((wrap64 ((wrap64 ((wrap64 (x1_1 + 1)) + 1)) + 1)) + 1)) + 1), (rd_T68 x0_1 x5_1).f6, (rd_T68 x0_1 x5_1).f7, (rd_T68 x0_1 x5_1).f8⟩ : S68) (show Kd.S k68 68 w24 w0.heap.size P0_ (.slice (some ⟨go5, 0, none⟩) x0_1.length co11) (x0_1.set (x5_1 : Int).toNat (⟨x1_1, wrap64 (x1_1 + 1), wrap64 ((wrap64 (x1_1 + 1)) + 1), wrap64 ((wrap64 ((wrap64 (x1_1 + 1)) + 1)) + 1), wrap64 ((wrap64 ((wrap64 ((wrap64 (x1_1 + 1)) + 1)) + 1)) + 1), (rd_T68 x0_1 x5_1).f5, (rd_T68 x0_1 x5_1).f6, (rd_T68 x0_1 x5_1).f7, (rd_T68 x0_1 x5_1).f8⟩ : S68)) from (ST HO_0.out)) C4.out C3.out (show 6 ≤ 9 from by decide) rfl (by intro w1_ oki_ c_ hm_; obtain ⟨v7, v8, rfl, g7, g8⟩ := k68_openM hm_; simp only [(HGET (⟨x1_1, wrap64 (x1_1 + 1), wrap64 ((wrap64 (x1_1 + 1)) + 1), wrap64 ((wrap64 ((wrap64 (x1_1 + 1)) + 1)) + 1), wrap64 ((wrap64 ((wrap64 ((wrap64 (x1_1 + 1)) + 1)) + 1)) + 1), (rd_T68 x0_1 x5_1).f5, (rd_T68 x0_1 x5_1).f6, (rd_T68 x0_1 x5_1).f7, (rd_T68 x0_1 x5_1).f8⟩ : S68)).out] at g7 g8 ⊢; exact k68_mkM w1_ _ _ (⟨x1_1, wrap64 (x1_1 + 1), wrap64 ((wrap64 (x1_1 + 1)) + 1), wrap64 ((wrap64 ((wrap64 (x1_1 + 1)) + 1)) + 1), wrap64 ((wrap64 ((wrap64 ((wrap64 (x1_1 + 1)) + 1)) + 1)) + 1), wrap64 ((wrap64 ((wrap64 ((wrap64 ((wrap64 (x1_1 + 1)) + 1)) + 1)) + 1)) + 1), (rd_T68 x0_1 x5_1).f6, (rd_T68 x0_1 x5_1).f7, (rd_T68 x0_1 x5_1).f8⟩ : S68) g7 g8); obtain ⟨hfr5, ⟨oki5, ce5, hM5, hcc5⟩, HP5⟩ := hp5; rw [(HGET (⟨x1_1, wrap64 (x1_1 + 1), wrap64 ((wrap64 (x1_1 + 1)) + 1), wrap64 ((wrap64 ((wrap64 (x1_1 + 1)) + 1)) + 1), wrap64 ((wrap64 ((wrap64 ((wrap64 (x1_1 + 1)) + 1)) + 1)) + 1), (rd_T68 x0_1 x5_1).f5, (rd_T68 x0_1 x5_1).f6, (rd_T68 x0_1 x5_1).f7, (rd_T68 x0_1 x5_1).f8⟩ : S68)).out] at hM5; obtain ⟨v75, v85, rfl, _, _⟩ := k68_openM hM5; have hx5 : w24.cell? ⟨go5, (x5_1 : Int).toNat * 9 + 5, none⟩ = some (.int .i64 ((rd_T68 x0_1 x5_1).f5)) := hcc5 5 _ rfl; have hf5 : w24.frozen? ⟨go5, (x5_1 : Int).toNat * 9 + 5, none⟩ = false := hfr5 5; have p5 : 0 ≤ (x5_1 : Int) := C4.out; have q5 : (x5_1 : Int) < ((x0_1.length : Int) : Int) := C3.out; replace p5 := eq_true p5; replace q5 := eq_true q5; clear hfr5 hcc5 hM5) | ((with_reducible refine gate_store (t := 3) (p := 51) rfl ?_); refine store_event (t := 3) (p := 51) (v := ?vo_w25) (w1 := (w24.setCell ⟨go5, (x5_1 : Int).toNat * 9 + 5, none⟩ (.int .i64 (wrap64 ((wrap64 ((wrap64 ((wrap64 ((wrap64 (x1_1 + 1)) + 1)) + 1)) + 1)) + 1))))) ?hg ?ho ?hn ?hr ?_; (case ho => rfl); (case hg => rfl); (case hn => rfl); (case hr => first | (go_simp; done) | (go_simp; rfl)); intro w25 hw; have hg : w24.grownBy w25 (some go5) := (by rw [hw]; exact HP5.2); have hp_ : Kd.S k68 68 w25 w0.heap.size P0_ (.slice (some ⟨go5, 0, none⟩) x0_1.length co11) (x0_1.set (x5_1 : Int).toNat (⟨x1_1, wrap64 (x1_1 + 1), wrap64 ((wrap64 (x1_1 + 1)) + 1), wrap64 ((wrap64 ((wrap64 (x1_1 + 1)) + 1)) + 1), wrap64 ((wrap64 ((wrap64 ((wrap64 (x1_1 + 1)) + 1)) + 1)) + 1), wrap64 ((wrap64 ((wrap64 ((wrap64 ((wrap64 (x1_1 + 1)) + 1)) + 1)) + 1)) + 1), (rd_T68 x0_1 x5_1).f6, (rd_T68 x0_1 x5_1).f7, (rd_T68 x0_1 x5_1).f8⟩ : S68)) := (by rw [hw]; have h_ := HP5.1; rw [List.set_set] at h_; exact h_); clear HP5 hx5 hf5 p5 q5; replace HO_0 := AM_ hp_; replace HB := AM_ ((by rw [hw]; exact below_set (HB.out) GB5.out : Below w0.heap.size w0 w25)); replace HK := AM_ (Kept.of_grown (S := (fun k_ => P0_ k_)) hg (by repeat (first | (with_reducible first | exact HK.out | apply Kept.alloc | apply Kept.drewN | apply Kept.drew) | exact HK.out)) (fun k_ e_ => by injection e_ with e_; subst e_; exact HGO.out)); clear hg hw hp_; have hp6 := laws_markTransactionS_put z68 x5_1 6 (.int .i64 (wrap64 ((wrap64 ((wrap64 ((wrap64 ((wrap64 ((wrap64 (x1_1 + 1)) + 1)) + 1)) + 1)) + 1)) + 1))) (⟨x1_1, wrap64 (x1_1 + 1), wrap64 ((wrap64 (x1_1 + 1)) + 1), wrap64 ((wrap64 ((wrap64 (x1_1 + 1)) + 1)) + 1), wrap64 ((wrap64 ((wrap64 ((wrap64 (x1_1 + 1)) + 1)) + 1)) + 1), wrap64 ((wrap64 ((wrap64 ((wrap64 ((wrap64 (x1_1 + 1)) + 1)) + 1)) + 1)) + 1), wrap64 ((wrap64 ((wrap64 ((wrap64 ((wrap64 ((wrap64 (x1_1 + 1)) + 1)) + 1)) + 1)) + 1)) + 1), (rd_T68 x0_1 x5_1).f7, (rd_T68 x0_1 x5_1).f8⟩ : S68) (show Kd.S k68 68 w25 w0.heap.size P0_ (.slice (some ⟨go5, 0, none⟩) x0_1.length co11) (x0_1.set (x5_1 : Int).toNat (⟨x1_1, wrap64 (x1_1 + 1), wrap64 ((wrap64 (x1_1 + 1)) + 1), wrap64 ((wrap64 ((wrap64 (x1_1 + 1)) + 1)) + 1), wrap64 ((wrap64 ((wrap64 ((wrap64 (x1_1 + 1)) + 1)) + 1)) + 1), wrap64 ((wrap64 ((wrap64 ((wrap64 ((wrap64 (x1_1 + 1)) + 1)) + 1)) + 1)) + 1), (rd_T68 x0_1 x5_1).f6, (rd_T68 x0_1 x5_1).f7, (rd_T68 x0_1 x5_1).f8⟩ : S68)) from (ST HO_0.out)) C4.out C3.out (show 7 ≤ 9 from by decide) rfl (by intro w1_ oki_ c_ hm_; obtain ⟨v7, v8, rfl, g7, g8⟩ := k68_openM hm_; simp only [(HGET (⟨x1_1, wrap64 (x1_1 + 1), wrap64 ((wrap64 (x1_1 + 1)) + 1), wrap64 ((wrap64 ((wrap64 (x1_1 + 1)) + 1)) + 1), wrap64 ((wrap64 ((wrap64 ((wrap64 (x1_1 + 1)) + 1)) + 1)) + 1), wrap64 ((wrap64 ((wrap64 ((wrap64 ((wrap64 (x1_1 + 1)) + 1)) + 1)) + 1)) + 1), (rd_T68 x0_1 x5_1).f6, (rd_T68 x0_1 x5_1).f7, (rd_T68 x0_1 x5_1).f8⟩ : S68)).out] at g7 g8 ⊢; exact k68_mkM w1_ _ _ (⟨x1_1, wrap64 (x1_1 + 1), wrap64 ((wrap64 (x1_1 + 1)) + 1), wrap64 ((wrap64 ((wrap64 (x1_1 + 1)) + 1)) + 1), wrap64 ((wrap64 ((wrap64 ((wrap64 (x1_1 + 1)) + 1)) + 1)) + 1), wrap64 ((wrap64 ((wrap64 ((wrap64 ((wrap64 (x1_1 + 1)) + 1)) + 1)) + 1)) + 1), wrap64 ((wrap64 ((wrap64 ((wrap64 ((wrap64 ((wrap64 (x1_1 + 1)) + 1)) + 1)) + 1)) + 1)) + 1), (rd_T68 x0_1 x5_1).f7, (rd_T68 x0_1 x5_1).f8⟩ : S68) g7 g8); obtain ⟨hfr6, ⟨oki6, ce6, hM6, hcc6⟩, HP6⟩ := hp6; rw [(HGET (⟨x1_1, wrap64 (x1_1 + 1), wrap64 ((wrap64 (x1_1 + 1)) + 1), wrap64 ((wrap64 ((wrap64 (x1_1 + 1)) + 1)) + 1), wrap64 ((wrap64 ((wrap64 ((wrap64 (x1_1 + 1)) + 1)) + 1)) + 1), wrap64 ((wrap64 ((wrap64 ((wrap64 ((wrap64 (x1_1 + 1)) + 1)) + 1)) + 1)) + 1), (rd_T68 x0_1 x5_1).f6, (rd_T68 x0_1 x5_1).f7, (rd_T68 x0_1 x5_1).f8⟩ : S68)).out] at hM6; obtain ⟨v76, v86, rfl, _, _⟩ := k68_openM hM6; have hx6 : w25.cell? ⟨go5, (x5_1 : Int).toNat * 9 + 6, none⟩ = some (.int .i64 ((rd_T68 x0_1 x5_1).f6)) := hcc6 6 _ rfl; have hf6 : w25.frozen? ⟨go5, (x5_1 : Int).toNat * 9 + 6, none⟩ = false := hfr6 6; have p5 : 0 ≤ (x5_1 : Int) := C4.out; have q5 : (x5_1 : Int) < ((x0_1.length : Int) : Int) := C3.out; replace p5 := eq_true p5; replace q5 := eq_true q5; clear hfr6 hcc6 hM6) | ((with_reducible refine gate_store (t := 3) (p := 58) rfl ?_); refine store_event (t := 3) (p := 58) (v := ?vo_w26) (w1 := (w25.setCell ⟨go5, (x5_1 : Int).toNat * 9 + 6, none⟩ (.int .i64 (wrap64 ((wrap64 ((wrap64 ((wrap64 ((wrap64 ((wrap64 (x1_1 + 1)) + 1)) + 1)) + 1)) + 1)) + 1))))) ?hg ?ho ?hn ?hr ?_; (case ho => rfl); (case hg => rfl); (case hn => rfl); (case hr => first | (go_simp; done) | (go_simp; rfl)); intro w26 hw; have hg : w25.grownBy w26 (some go5) := (by rw [hw]; exact HP6.2); have hp_ : Kd.S k68 68 w26 w0.heap.size P0_ (.slice (some ⟨go5, 0, none⟩) x0_1.length co11) (x0_1.set (x5_1 : Int).toNat (⟨x1_1, wrap64 (x1_1 + 1), wrap64 ((wrap64 (x1_1 + 1)) + 1), wrap64 ((wrap64 ((wrap64 (x1_1 + 1)) + 1)) + 1), wrap64 ((wrap64 ((wrap64 ((wrap64 (x1_1 + 1)) + 1)) + 1)) + 1), wrap64 ((wrap64 ((wrap64 ((wrap64 ((wrap64 (x1_1 + 1)) + 1)) + 1)) + 1)) + 1), wrap64 ((wrap64 ((wrap64 ((wrap64 ((wrap64 ((wrap64 (x1_1 + 1)) + 1)) + 1)) + 1)) + 1)) + 1), (rd_T68 x0_1 x5_1).f7, (rd_T68 x0_1 x5_1).f8⟩ : S68)) := (by rw [hw]; have h_ := HP6.1; rw [List.set_set] at h_; exact h_); clear HP6 hx6 hf6 p5 q5; replace HO_0 := AM_ hp_; replace HB := AM_ ((by rw [hw]; exact below_set (HB.out) GB5.out : Below w0.heap.size w0 w26)); replace HK := AM_ (Kept.of_grown (S := (fun k_ => P0_ k_)) hg (by repeat (first | (with_reducible first | exact HK.out | apply Kept.alloc | apply Kept.drewN | apply Kept.drew) | exact HK.out)) (fun k_ e_ => by injection e_ with e_; subst e_; exact HGO.out)); clear hg hw hp_; obtain ⟨oki, ce, _, hM, hcc, hoki, hH⟩ := Kd.S_lend (show Kd.S k68 68 w26 w0.heap.size P0_ (.slice (some ⟨go5, 0, none⟩) x0_1.length co11) (x0_1.set (x5_1 : Int).toNat (⟨x1_1, wrap64 (x1_1 + 1), wrap64 ((wrap64 (x1_1 + 1)) + 1), wrap64 ((wrap64 ((wrap64 (x1_1 + 1)) + 1)) + 1), wrap64 ((wrap64 ((wrap64 ((wrap64 (x1_1 + 1)) + 1)) + 1)) + 1), wrap64 ((wrap64 ((wrap64 ((wrap64 ((wrap64 (x1_1 + 1)) + 1)) + 1)) + 1)) + 1), wrap64 ((wrap64 ((wrap64 ((wrap64 ((wrap64 ((wrap64 (x1_1 + 1)) + 1)) + 1)) + 1)) + 1)) + 1), (rd_T68 x0_1 x5_1).f7, (rd_T68 x0_1 x5_1).f8⟩ : S68)) from (ST HO_0.out)) z68 (x5_1 : Int) C4.out C3.out; rw [(HGET (⟨x1_1, wrap64 (x1_1 + 1), wrap64 ((wrap64 (x1_1 + 1)) + 1), wrap64 ((wrap64 ((wrap64 (x1_1 + 1)) + 1)) + 1), wrap64 ((wrap64 ((wrap64 ((wrap64 (x1_1 + 1)) + 1)) + 1)) + 1), wrap64 ((wrap64 ((wrap64 ((wrap64 ((wrap64 (x1_1 + 1)) + 1)) + 1)) + 1)) + 1), wrap64 ((wrap64 ((wrap64 ((wrap64 ((wrap64 ((wrap64 (x1_1 + 1)) + 1)) + 1)) + 1)) + 1)) + 1), (rd_T68 x0_1 x5_1).f7, (rd_T68 x0_1 x5_1).f8⟩ : S68)).out] at hM; obtain ⟨v7, v8, rfl, h7, h8⟩ := k68_openM hM; obtain ⟨Av, cv, ev⟩ := Kd.R_slice h7; subst ev; have hx : w26.cell? ⟨go5, (x5_1 : Int).toNat * 9 + 7, none⟩ = some (.slice Av (⟨x1_1, wrap64 (x1_1 + 1), wrap64 ((wrap64 (x1_1 + 1)) + 1), wrap64 ((wrap64 ((wrap64 (x1_1 + 1)) + 1)) + 1), wrap64 ((wrap64 ((wrap64 ((wrap64 (x1_1 + 1)) + 1)) + 1)) + 1), wrap64 ((wrap64 ((wrap64 ((wrap64 ((wrap64 (x1_1 + 1)) + 1)) + 1)) + 1)) + 1), wrap64 ((wrap64 ((wrap64 ((wrap64 ((wrap64 ((wrap64 (x1_1 + 1)) + 1)) + 1)) + 1)) + 1)) + 1), (rd_T68 x0_1 x5_1).f7, (rd_T68 x0_1 x5_1).f8⟩ : S68).f7.length cv) := hcc 7 _ rfl; have HH := AM_ hH; have HI := AM_ hoki; have H7 := AM_ h7; have H8 := AM_ h8; clear hcc hM hH hoki h7 h8; have p5 : 0 ≤ (x5_1 : Int) := C4.out; have q5 : (x5_1 : Int) < ((x0_1.length : Int) : Int) := C3.out; replace p5 := eq_true p5; replace q5 := eq_true q5) | (go_at_call 145; (with_reducible refine (laws_markReadMarkS.calls k1 (fun k_ => some k_ = ((.slice Av (⟨x1_1, wrap64 (x1_1 + 1), wrap64 ((wrap64 (x1_1 + 1)) + 1), wrap64 ((wrap64 ((wrap64 (x1_1 + 1)) + 1)) + 1), wrap64 ((wrap64 ((wrap64 ((wrap64 (x1_1 + 1)) + 1)) + 1)) + 1), wrap64 ((wrap64 ((wrap64 ((wrap64 ((wrap64 (x1_1 + 1)) + 1)) + 1)) + 1)) + 1), wrap64 ((wrap64 ((wrap64 ((wrap64 ((wrap64 ((wrap64 (x1_1 + 1)) + 1)) + 1)) + 1)) + 1)) + 1), (rd_T68 x0_1 x5_1).f7, (rd_T68 x0_1 x5_1).f8⟩ : S68).f7.length cv) : Value).ownBlock) (.slice Av (⟨x1_1, wrap64 (x1_1 + 1), wrap64 ((wrap64 (x1_1 + 1)) + 1), wrap64 ((wrap64 ((wrap64 (x1_1 + 1)) + 1)) + 1), wrap64 ((wrap64 ((wrap64 ((wrap64 (x1_1 + 1)) + 1)) + 1)) + 1), wrap64 ((wrap64 ((wrap64 ((wrap64 ((wrap64 (x1_1 + 1)) + 1)) + 1)) + 1)) + 1), wrap64 ((wrap64 ((wrap64 ((wrap64 ((wrap64 ((wrap64 (x1_1 + 1)) + 1)) + 1)) + 1)) + 1)) + 1), (rd_T68 x0_1 x5_1).f7, (rd_T68 x0_1 x5_1).f8⟩ : S68).f7.length cv) (⟨x1_1, wrap64 (x1_1 + 1), wrap64 ((wrap64 (x1_1 + 1)) + 1), wrap64 ((wrap64 ((wrap64 (x1_1 + 1)) + 1)) + 1), wrap64 ((wrap64 ((wrap64 ((wrap64 (x1_1 + 1)) + 1)) + 1)) + 1), wrap64 ((wrap64 ((wrap64 ((wrap64 ((wrap64 (x1_1 + 1)) + 1)) + 1)) + 1)) + 1), wrap64 ((wrap64 ((wrap64 ((wrap64 ((wrap64 ((wrap64 (x1_1 + 1)) + 1)) + 1)) + 1)) + 1)) + 1), (rd_T68 x0_1 x5_1).f7, (rd_T68 x0_1 x5_1).f8⟩ : S68).f7 (wrap64 ((wrap64 ((wrap64 ((wrap64 ((wrap64 ((wrap64 ((wrap64 (x1_1 + 1)) + 1)) + 1)) + 1)) + 1)) + 1)) + 1)) t1 t2 w0 _ ?side1 ?side2 A7.out).mono ?_); (case side1 => exact (BT HB.out)); (case side2 => (with_reducible repeat (first | apply Kd.R_alloc | apply Kd.R_drewN | apply Kd.R_drew)); exact Kd.R_tight rfl H7.out); rintro e w31 ⟨rfl, hy0, hb, hkp⟩; have n0_ := AM_ (Kept.then_ (S := fun k_ => P0_ k_) (w := w) (by repeat (first | (with_reducible first | exact HK.out | apply Kept.alloc | apply Kept.drewN | apply Kept.drew) | exact HK.out)) hkp (fun k_ hk_ => .inl (HI.out k_ (H7.out.1 k_ hk_.symm)).1)); have ho_ : k133.R 133 w31 w0.heap.size oki v8 (⟨x1_1, wrap64 (x1_1 + 1), wrap64 ((wrap64 (x1_1 + 1)) + 1), wrap64 ((wrap64 ((wrap64 (x1_1 + 1)) + 1)) + 1), wrap64 ((wrap64 ((wrap64 ((wrap64 (x1_1 + 1)) + 1)) + 1)) + 1), wrap64 ((wrap64 ((wrap64 ((wrap64 ((wrap64 (x1_1 + 1)) + 1)) + 1)) + 1)) + 1), wrap64 ((wrap64 ((wrap64 ((wrap64 ((wrap64 ((wrap64 (x1_1 + 1)) + 1)) + 1)) + 1)) + 1)) + 1), (rd_T68 x0_1 x5_1).f7, (rd_T68 x0_1 x5_1).f8⟩ : S68).f8 := Kd.R_mono (Kd.R_kept (Kd.R_apart' (show k133.R 133 _ w0.heap.size oki v8 (⟨x1_1, wrap64 (x1_1 + 1), wrap64 ((wrap64 (x1_1 + 1)) + 1), wrap64 ((wrap64 ((wrap64 (x1_1 + 1)) + 1)) + 1), wrap64 ((wrap64 ((wrap64 ((wrap64 (x1_1 + 1)) + 1)) + 1)) + 1), wrap64 ((wrap64 ((wrap64 ((wrap64 ((wrap64 (x1_1 + 1)) + 1)) + 1)) + 1)) + 1), wrap64 ((wrap64 ((wrap64 ((wrap64 ((wrap64 ((wrap64 (x1_1 + 1)) + 1)) + 1)) + 1)) + 1)) + 1), (rd_T68 x0_1 x5_1).f7, (rd_T68 x0_1 x5_1).f8⟩ : S68).f8 from (RT H8.out)) (Kd.R_typed (show k165.R 165 _ w0.heap.size oki (.slice Av (⟨x1_1, wrap64 (x1_1 + 1), wrap64 ((wrap64 (x1_1 + 1)) + 1), wrap64 ((wrap64 ((wrap64 (x1_1 + 1)) + 1)) + 1), wrap64 ((wrap64 ((wrap64 ((wrap64 (x1_1 + 1)) + 1)) + 1)) + 1), wrap64 ((wrap64 ((wrap64 ((wrap64 ((wrap64 (x1_1 + 1)) + 1)) + 1)) + 1)) + 1), wrap64 ((wrap64 ((wrap64 ((wrap64 ((wrap64 ((wrap64 (x1_1 + 1)) + 1)) + 1)) + 1)) + 1)) + 1), (rd_T68 x0_1 x5_1).f7, (rd_T68 x0_1 x5_1).f8⟩ : S68).f7.length cv) (⟨x1_1, wrap64 (x1_1 + 1), wrap64 ((wrap64 (x1_1 + 1)) + 1), wrap64 ((wrap64 ((wrap64 (x1_1 + 1)) + 1)) + 1), wrap64 ((wrap64 ((wrap64 ((wrap64 (x1_1 + 1)) + 1)) + 1)) + 1), wrap64 ((wrap64 ((wrap64 ((wrap64 ((wrap64 (x1_1 + 1)) + 1)) + 1)) + 1)) + 1), wrap64 ((wrap64 ((wrap64 ((wrap64 ((wrap64 ((wrap64 (x1_1 + 1)) + 1)) + 1)) + 1)) + 1)) + 1), (rd_T68 x0_1 x5_1).f7, (rd_T68 x0_1 x5_1).f8⟩ : S68).f7 from (RT H7.out))) (by decide)) hkp (fun k_ hk_ hs_ => hk_.2 hs_)) (fun k_ hk_ => hk_.1); have hH_ := Kd.H_kept HH.out hkp (fun k_ _ hn_ hs_ => hn_ (H7.out.1 k_ hs_.symm)); have hM_ : k68.M w31 w0.heap.size oki (⟨x1_1, wrap64 (x1_1 + 1), wrap64 ((wrap64 (x1_1 + 1)) + 1), wrap64 ((wrap64 ((wrap64 (x1_1 + 1)) + 1)) + 1), wrap64 ((wrap64 ((wrap64 ((wrap64 (x1_1 + 1)) + 1)) + 1)) + 1), wrap64 ((wrap64 ((wrap64 ((wrap64 ((wrap64 (x1_1 + 1)) + 1)) + 1)) + 1)) + 1), wrap64 ((wrap64 ((wrap64 ((wrap64 ((wrap64 ((wrap64 (x1_1 + 1)) + 1)) + 1)) + 1)) + 1)) + 1), t2, (rd_T68 x0_1 x5_1).f8⟩ : S68) [.int .i64 (x1_1), .int .i64 (wrap64 (x1_1 + 1)), .int .i64 (wrap64 ((wrap64 (x1_1 + 1)) + 1)), .int .i64 (wrap64 ((wrap64 ((wrap64 (x1_1 + 1)) + 1)) + 1)), .int .i64 (wrap64 ((wrap64 ((wrap64 ((wrap64 (x1_1 + 1)) + 1)) + 1)) + 1)), .int .i64 (wrap64 ((wrap64 ((wrap64 ((wrap64 ((wrap64 (x1_1 + 1)) + 1)) + 1)) + 1)) + 1)), .int .i64 (wrap64 ((wrap64 ((wrap64 ((wrap64 ((wrap64 ((wrap64 (x1_1 + 1)) + 1)) + 1)) + 1)) + 1)) + 1)), (.slice Av (⟨x1_1, wrap64 (x1_1 + 1), wrap64 ((wrap64 (x1_1 + 1)) + 1), wrap64 ((wrap64 ((wrap64 (x1_1 + 1)) + 1)) + 1), wrap64 ((wrap64 ((wrap64 ((wrap64 (x1_1 + 1)) + 1)) + 1)) + 1), wrap64 ((wrap64 ((wrap64 ((wrap64 ((wrap64 (x1_1 + 1)) + 1)) + 1)) + 1)) + 1), wrap64 ((wrap64 ((wrap64 ((wrap64 ((wrap64 ((wrap64 (x1_1 + 1)) + 1)) + 1)) + 1)) + 1)) + 1), (rd_T68 x0_1 x5_1).f7, (rd_T68 x0_1 x5_1).f8⟩ : S68).f7.length cv), v8] := k68_mkM _ _ _ (⟨x1_1, wrap64 (x1_1 + 1), wrap64 ((wrap64 (x1_1 + 1)) + 1), wrap64 ((wrap64 ((wrap64 (x1_1 + 1)) + 1)) + 1), wrap64 ((wrap64 ((wrap64 ((wrap64 (x1_1 + 1)) + 1)) + 1)) + 1), wrap64 ((wrap64 ((wrap64 ((wrap64 ((wrap64 (x1_1 + 1)) + 1)) + 1)) + 1)) + 1), wrap64 ((wrap64 ((wrap64 ((wrap64 ((wrap64 ((wrap64 (x1_1 + 1)) + 1)) + 1)) + 1)) + 1)) + 1), t2, (rd_T68 x0_1 x5_1).f8⟩ : S68) (Kd.R_reok rfl hy0 (fun k_ e_ => H7.out.1 k_ e_)) ho_; have n1_ : Aside0 (Kd.S k68 68 w31 w0.heap.size P0_ (.slice (some ⟨go5, 0, none⟩) x0_1.length co11) (x0_1.set (x5_1 : Int).toNat (⟨x1_1, wrap64 (x1_1 + 1), wrap64 ((wrap64 (x1_1 + 1)) + 1), wrap64 ((wrap64 ((wrap64 (x1_1 + 1)) + 1)) + 1), wrap64 ((wrap64 ((wrap64 ((wrap64 (x1_1 + 1)) + 1)) + 1)) + 1), wrap64 ((wrap64 ((wrap64 ((wrap64 ((wrap64 (x1_1 + 1)) + 1)) + 1)) + 1)) + 1), wrap64 ((wrap64 ((wrap64 ((wrap64 ((wrap64 ((wrap64 (x1_1 + 1)) + 1)) + 1)) + 1)) + 1)) + 1), t2, (rd_T68 x0_1 x5_1).f8⟩ : S68))) := ⟨by have h_ := Kd.H_back hH_ hM_ (fun _ hk_ => hk_); rw [List.set_set] at h_; exact h_⟩; clear hH_ hM_ ho_ HH HI H7 H8 hx p5 q5; clear HO_0; clear HK; clear HB; have HO_0 := n1_; have HK := n0_; have HB := AM_ hb; clear n0_ n1_ hb hkp hy0; obtain ⟨oki, ce, _, hM, hcc, hoki, hH⟩ := Kd.S_lend (show Kd.S k68 68 w31 w0.heap.size P0_ (.slice (some ⟨go5, 0, none⟩) x0_1.length co11) (x0_1.set (x5_1 : Int).toNat (⟨x1_1, wrap64 (x1_1 + 1), wrap64 ((wrap64 (x1_1 + 1)) + 1), wrap64 ((wrap64 ((wrap64 (x1_1 + 1)) + 1)) + 1), wrap64 ((wrap64 ((wrap64 ((wrap64 (x1_1 + 1)) + 1)) + 1)) + 1), wrap64 ((wrap64 ((wrap64 ((wrap64 ((wrap64 (x1_1 + 1)) + 1)) + 1)) + 1)) + 1), wrap64 ((wrap64 ((wrap64 ((wrap64 ((wrap64 ((wrap64 (x1_1 + 1)) + 1)) + 1)) + 1)) + 1)) + 1), t2, (rd_T68 x0_1 x5_1).f8⟩ : S68)) from (ST HO_0.out)) z68 (x5_1 : Int) C4.out C3.out; rw [(HGET (⟨x1_1, wrap64 (x1_1 + 1), wrap64 ((wrap64 (x1_1 + 1)) + 1), wrap64 ((wrap64 ((wrap64 (x1_1 + 1)) + 1)) + 1), wrap64 ((wrap64 ((wrap64 ((wrap64 (x1_1 + 1)) + 1)) + 1)) + 1), wrap64 ((wrap64 ((wrap64 ((wrap64 ((wrap64 (x1_1 + 1)) + 1)) + 1)) + 1)) + 1), wrap64 ((wrap64 ((wrap64 ((wrap64 ((wrap64 ((wrap64 (x1_1 + 1)) + 1)) + 1)) + 1)) + 1)) + 1), t2, (rd_T68 x0_1 x5_1).f8⟩ : S68)).out] at hM; obtain ⟨v7, v8, rfl, h7, h8⟩ := k68_openM hM; obtain ⟨Av, cv, ev⟩ := Kd.R_slice h8; subst ev; have hx : w31.cell? ⟨go5, (x5_1 : Int).toNat * 9 + 8, none⟩ = some (.slice Av (⟨x1_1, wrap64 (x1_1 + 1), wrap64 ((wrap64 (x1_1 + 1)) + 1), wrap64 ((wrap64 ((wrap64 (x1_1 + 1)) + 1)) + 1), wrap64 ((wrap64 ((wrap64 ((wrap64 (x1_1 + 1)) + 1)) + 1)) + 1), wrap64 ((wrap64 ((wrap64 ((wrap64 ((wrap64 (x1_1 + 1)) + 1)) + 1)) + 1)) + 1), wrap64 ((wrap64 ((wrap64 ((wrap64 ((wrap64 ((wrap64 (x1_1 + 1)) + 1)) + 1)) + 1)) + 1)) + 1), t2, (rd_T68 x0_1 x5_1).f8⟩ : S68).f8.length cv) := hcc 8 _ rfl; have HH := AM_ hH; have HI := AM_ hoki; have H7 := AM_ h7; have H8 := AM_ h8; clear hcc hM hH hoki h7 h8; have p5 : 0 ≤ (x5_1 : Int) := C4.out; have q5 : (x5_1 : Int) < ((x0_1.length : Int) : Int) := C3.out; replace p5 := eq_true p5; replace q5 := eq_true q5) | (go_at_call 146; (with_reducible refine (laws_markWriteS.calls k1 (fun k_ => some k_ = ((.slice Av (⟨x1_1, wrap64 (x1_1 + 1), wrap64 ((wrap64 (x1_1 + 1)) + 1), wrap64 ((wrap64 ((wrap64 (x1_1 + 1)) + 1)) + 1), wrap64 ((wrap64 ((wrap64 ((wrap64 (x1_1 + 1)) + 1)) + 1)) + 1), wrap64 ((wrap64 ((wrap64 ((wrap64 ((wrap64 (x1_1 + 1)) + 1)) + 1)) + 1)) + 1), wrap64 ((wrap64 ((wrap64 ((wrap64 ((wrap64 ((wrap64 (x1_1 + 1)) + 1)) + 1)) + 1)) + 1)) + 1), t2, (rd_T68 x0_1 x5_1).f8⟩ : S68).f8.length cv) : Value).ownBlock) (.slice Av (⟨x1_1, wrap64 (x1_1 + 1), wrap64 ((wrap64 (x1_1 + 1)) + 1), wrap64 ((wrap64 ((wrap64 (x1_1 + 1)) + 1)) + 1), wrap64 ((wrap64 ((wrap64 ((wrap64 (x1_1 + 1)) + 1)) + 1)) + 1), wrap64 ((wrap64 ((wrap64 ((wrap64 ((wrap64 (x1_1 + 1)) + 1)) + 1)) + 1)) + 1), wrap64 ((wrap64 ((wrap64 ((wrap64 ((wrap64 ((wrap64 (x1_1 + 1)) + 1)) + 1)) + 1)) + 1)) + 1), t2, (rd_T68 x0_1 x5_1).f8⟩ : S68).f8.length cv) (⟨x1_1, wrap64 (x1_1 + 1), wrap64 ((wrap64 (x1_1 + 1)) + 1), wrap64 ((wrap64 ((wrap64 (x1_1 + 1)) + 1)) + 1), wrap64 ((wrap64 ((wrap64 ((wrap64 (x1_1 + 1)) + 1)) + 1)) + 1), wrap64 ((wrap64 ((wrap64 ((wrap64 ((wrap64 (x1_1 + 1)) + 1)) + 1)) + 1)) + 1), wrap64 ((wrap64 ((wrap64 ((wrap64 ((wrap64 ((wrap64 (x1_1 + 1)) + 1)) + 1)) + 1)) + 1)) + 1), t2, (rd_T68 x0_1 x5_1).f8⟩ : S68).f8 (t1) t3 t4 w0 _ ?side1 ?side2 A8.out).mono ?_); (case side1 => exact (BT HB.out)); (case side2 => (with_reducible repeat (first | apply Kd.R_alloc | apply Kd.R_drewN | apply Kd.R_drew)); exact Kd.R_tight rfl H8.out); rintro e w32 ⟨rfl, hy0, hb, hkp⟩; have n0_ := AM_ (Kept.then_ (S := fun k_ => P0_ k_) (w := w) (by repeat (first | (with_reducible first | exact HK.out | apply Kept.alloc | apply Kept.drewN | apply Kept.drew) | exact HK.out)) hkp (fun k_ hk_ => .inl (HI.out k_ (H8.out.1 k_ hk_.symm)).1)); have ho_ : k165.R 165 w32 w0.heap.size oki v7 (⟨x1_1, wrap64 (x1_1 + 1), wrap64 ((wrap64 (x1_1 + 1)) + 1), wrap64 ((wrap64 ((wrap64 (x1_1 + 1)) + 1)) + 1), wrap64 ((wrap64 ((wrap64 ((wrap64 (x1_1 + 1)) + 1)) + 1)) + 1), wrap64 ((wrap64 ((wrap64 ((wrap64 ((wrap64 (x1_1 + 1)) + 1)) + 1)) + 1)) + 1), wrap64 ((wrap64 ((wrap64 ((wrap64 ((wrap64 ((wrap64 (x1_1 + 1)) + 1)) + 1)) + 1)) + 1)) + 1), t2, (rd_T68 x0_1 x5_1).f8⟩ : S68).f7 := Kd.R_mono (Kd.R_kept (Kd.R_apart' (show k165.R 165 _ w0.heap.size oki v7 (⟨x1_1, wrap64 (x1_1 + 1), wrap64 ((wrap64 (x1_1 + 1)) + 1), wrap64 ((wrap64 ((wrap64 (x1_1 + 1)) + 1)) + 1), wrap64 ((wrap64 ((wrap64 ((wrap64 (x1_1 + 1)) + 1)) + 1)) + 1), wrap64 ((wrap64 ((wrap64 ((wrap64 ((wrap64 (x1_1 + 1)) + 1)) + 1)) + 1)) + 1), wrap64 ((wrap64 ((wrap64 ((wrap64 ((wrap64 ((wrap64 (x1_1 + 1)) + 1)) + 1)) + 1)) + 1)) + 1), t2, (rd_T68 x0_1 x5_1).f8⟩ : S68).f7 from (RT H7.out)) (Kd.R_typed (show k133.R 133 _ w0.heap.size oki (.slice Av (⟨x1_1, wrap64 (x1_1 + 1), wrap64 ((wrap64 (x1_1 + 1)) + 1), wrap64 ((wrap64 ((wrap64 (x1_1 + 1)) + 1)) + 1), wrap64 ((wrap64 ((wrap64 ((wrap64 (x1_1 + 1)) + 1)) + 1)) + 1), wrap64 ((wrap64 ((wrap64 ((wrap64 ((wrap64 (x1_1 + 1)) + 1)) + 1)) + 1)) + 1), wrap64 ((wrap64 ((wrap64 ((wrap64 ((wrap64 ((wrap64 (x1_1 + 1)) + 1)) + 1)) + 1)) + 1)) + 1), t2, (rd_T68 x0_1 x5_1).f8⟩ : S68).f8.length cv) (⟨x1_1, wrap64 (x1_1 + 1), wrap64 ((wrap64 (x1_1 + 1)) + 1), wrap64 ((wrap64 ((wrap64 (x1_1 + 1)) + 1)) + 1), wrap64 ((wrap64 ((wrap64 ((wrap64 (x1_1 + 1)) + 1)) + 1)) + 1), wrap64 ((wrap64 ((wrap64 ((wrap64 ((wrap64 (x1_1 + 1)) + 1)) + 1)) + 1)) + 1), wrap64 ((wrap64 ((wrap64 ((wrap64 ((wrap64 ((wrap64 (x1_1 + 1)) + 1)) + 1)) + 1)) + 1)) + 1), t2, (rd_T68 x0_1 x5_1).f8⟩ : S68).f8 from (RT H8.out))) (by decide)) hkp (fun k_ hk_ hs_ => hk_.2 hs_)) (fun k_ hk_ => hk_.1); have hH_ := Kd.H_kept HH.out hkp (fun k_ _ hn_ hs_ => hn_ (H8.out.1 k_ hs_.symm)); have hM_ : k68.M w32 w0.heap.size oki (⟨x1_1, wrap64 (x1_1 + 1), wrap64 ((wrap64 (x1_1 + 1)) + 1), wrap64 ((wrap64 ((wrap64 (x1_1 + 1)) + 1)) + 1), wrap64 ((wrap64 ((wrap64 ((wrap64 (x1_1 + 1)) + 1)) + 1)) + 1), wrap64 ((wrap64 ((wrap64 ((wrap64 ((wrap64 (x1_1 + 1)) + 1)) + 1)) + 1)) + 1), wrap64 ((wrap64 ((wrap64 ((wrap64 ((wrap64 ((wrap64 (x1_1 + 1)) + 1)) + 1)) + 1)) + 1)) + 1), t2, t4⟩ : S68) [.int .i64 (x1_1), .int .i64 (wrap64 (x1_1 + 1)), .int .i64 (wrap64 ((wrap64 (x1_1 + 1)) + 1)), .int .i64 (wrap64 ((wrap64 ((wrap64 (x1_1 + 1)) + 1)) + 1)), .int .i64 (wrap64 ((wrap64 ((wrap64 ((wrap64 (x1_1 + 1)) + 1)) + 1)) + 1)), .int .i64 (wrap64 ((wrap64 ((wrap64 ((wrap64 ((wrap64 (x1_1 + 1)) + 1)) + 1)) + 1)) + 1)), .int .i64 (wrap64 ((wrap64 ((wrap64 ((wrap64 ((wrap64 ((wrap64 (x1_1 + 1)) + 1)) + 1)) + 1)) + 1)) + 1)), v7, (.slice Av (⟨x1_1, wrap64 (x1_1 + 1), wrap64 ((wrap64 (x1_1 + 1)) + 1), wrap64 ((wrap64 ((wrap64 (x1_1 + 1)) + 1)) + 1), wrap64 ((wrap64 ((wrap64 ((wrap64 (x1_1 + 1)) + 1)) + 1)) + 1), wrap64 ((wrap64 ((wrap64 ((wrap64 ((wrap64 (x1_1 + 1)) + 1)) + 1)) + 1)) + 1), wrap64 ((wrap64 ((wrap64 ((wrap64 ((wrap64 ((wrap64 (x1_1 + 1)) + 1)) + 1)) + 1)) + 1)) + 1), t2, (rd_T68 x0_1 x5_1).f8⟩ : S68).f8.length cv)] := k68_mkM _ _ _ (⟨x1_1, wrap64 (x1_1 + 1), wrap64 ((wrap64 (x1_1 + 1)) + 1), wrap64 ((wrap64 ((wrap64 (x1_1 + 1)) + 1)) + 1), wrap64 ((wrap64 ((wrap64 ((wrap64 (x1_1 + 1)) + 1)) + 1)) + 1), wrap64 ((wrap64 ((wrap64 ((wrap64 ((wrap64 (x1_1 + 1)) + 1)) + 1)) + 1)) + 1), wrap64 ((wrap64 ((wrap64 ((wrap64 ((wrap64 ((wrap64 (x1_1 + 1)) + 1)) + 1)) + 1)) + 1)) + 1), t2, t4⟩ : S68) ho_ (Kd.R_reok rfl hy0 (fun k_ e_ => H8.out.1 k_ e_)); have n1_ : Aside0 (Kd.S k68 68 w32 w0.heap.size P0_ (.slice (some ⟨go5, 0, none⟩) x0_1.length co11) (x0_1.set (x5_1 : Int).toNat (⟨x1_1, wrap64 (x1_1 + 1), wrap64 ((wrap64 (x1_1 + 1)) + 1), wrap64 ((wrap64 ((wrap64 (x1_1 + 1)) + 1)) + 1), wrap64 ((wrap64 ((wrap64 ((wrap64 (x1_1 + 1)) + 1)) + 1)) + 1), wrap64 ((wrap64 ((wrap64 ((wrap64 ((wrap64 (x1_1 + 1)) + 1)) + 1)) + 1)) + 1), wrap64 ((wrap64 ((wrap64 ((wrap64 ((wrap64 ((wrap64 (x1_1 + 1)) + 1)) + 1)) + 1)) + 1)) + 1), t2, t4⟩ : S68))) := ⟨by have h_ := Kd.H_back hH_ hM_ (fun _ hk_ => hk_); rw [List.set_set] at h_; exact h_⟩; clear hH_ hM_ ho_ HH HI H7 H8 hx p5 q5; clear HO_0; clear HK; clear HB; have HO_0 := n1_; have HK := n0_; have HB := AM_ hb; clear n0_ n1_ hb hkp hy0))
   go_roundg k1
   case measure => have := HK1.out; omega
   case rel => exact ⟨(x0_1.set (x5_1 : Int).toNat (⟨x1_1, wrap64 (x1_1 + 1), wrap64 ((wrap64 (x1_1 + 1)) + 1), wrap64 ((wrap64 ((wrap64 (x1_1 + 1)) + 1)) + 1), wrap64 ((wrap64 ((wrap64 ((wrap64 (x1_1 + 1)) + 1)) + 1)) + 1), wrap64 ((wrap64 ((wrap64 ((wrap64 ((wrap64 (x1_1 + 1)) + 1)) + 1)) + 1)) + 1), wrap64 ((wrap64 ((wrap64 ((wrap64 ((wrap64 ((wrap64 (x1_1 + 1)) + 1)) + 1)) + 1)) + 1)) + 1), t2, t4⟩ : S68)), (t3), (wrap64 (x5_1 + 1)), (by first | rfl | (simp; done) | (simp [*]; done)), (by first | rfl | (simp; done) | (simp [*]; done)), H', ⟨by have := HK1.out; omega⟩, ⟨ST HO_0.out⟩, ⟨(by repeat (first | (with_reducible first | exact HK.out | apply Kept.alloc | apply Kept.drewN | apply Kept.drew) | exact HK.out))⟩, ⟨(BT HB.out)⟩⟩

/-! ### laws_markLockS: function 113 -/
def laws_markLockS.l0 : Nat → List (S150) → Int → Int → Option (Int × (List (S150)))
 | 0, _, _, _ => none
 | k + 1, x0, x1, x5 => if x5 < (x0.length : Int) then (if 0 ≤ x5 then ((some (x0.set (x5 : Int).toNat (⟨x1, (rd_T150 x0 x5).f1⟩ : S150) : List (S150))).bind fun y178 => (laws_markLockS.l0 k (y178.set (x5 : Int).toNat (⟨(rd_T150 y178 x5).f0, wrap64 (x1 + 1)⟩ : S150)) (wrap64 ((wrap64 (x1 + 1)) + 1)) (wrap64 (x5 + 1)))) else (none)) else (some (x1, x0))
def laws_markLockS.f (k : Nat) (l0 : List (S150)) (a1 : Int) : Option (Int × (List (S150))) := laws_markLockS.l0 k l0 a1 0
theorem laws_markLockS.mono_l : ∀ k, (∀ y0 y1 y2, LeO (laws_markLockS.l0 k y0 y1 y2) (laws_markLockS.l0 (k + 1) y0 y1 y2))
 | 0 => fun _ _ _ r h => by simp [laws_markLockS.l0] at h
 | k + 1 => by
  have ih0 := laws_markLockS.mono_l k
  ·intro y0 y1 y2
   unfold laws_markLockS.l0
   repeat' first
   | (with_reducible exact ih0 _ _ _)
   | (with_reducible exact LeO.refl _)
   | (with_reducible exact LeO.none _)
   | (with_reducible refine LeO.ite ?_ ?_)
   | (with_reducible refine LeO.bind ?_ (fun _ => ?_))
   | exact ih0 _ _ _
   | exact LeO.none _
   | refine LeO.ite ?_ ?_
   | refine LeO.bind ?_ (fun _ => ?_)
theorem laws_markLockS.mono : ∀ a0 a1 k, LeO (laws_markLockS.f k a0 a1) (laws_markLockS.f (k + 1) a0 a1) := by
 intro a0 a1 k
 have ih0 := laws_markLockS.mono_l k
 unfold laws_markLockS.f
 repeat' first
   | (with_reducible exact ih0 _ _ _)
   | (with_reducible exact LeO.refl _)
   | (with_reducible exact LeO.none _)
   | (with_reducible refine LeO.ite ?_ ?_)
   | (with_reducible refine LeO.bind ?_ (fun _ => ?_))
   | exact ih0 _ _ _
   | exact LeO.none _
   | refine LeO.ite ?_ ?_
   | refine LeO.bind ?_ (fun _ => ?_)
set_option maxHeartbeats 8000000 in
set_option maxRecDepth 100000 in
theorem laws_markLockS.calls (k : Nat) (P0_ : Nat → Prop) (u9000_ : Value) (l0 : List (S150)) (a1 : Int) (r1 : Int) (r2 : List (S150)) (w0 w : World) (hB : Below w0.heap.size w0 w) (ho0 : Kd.R k150 150 w w0.heap.size P0_ u9000_ l0) (h : laws_markLockS.f k l0 a1 = some (r1, r2)) :
  Calls Try.prog 113 #[u9000_, .int .i64 a1] w fun e w' => e = .returned (.int .i64 r1) ∧ Kd.R k150 150 w' w0.heap.size (fun k_ => (P0_ k_ ∨ w.heap.size ≤ k_)) u9000_ r2 ∧ Below w0.heap.size w0 w' ∧ Kept w w' (fun k_ => P0_ k_) := by
 have HO0 := AM_ (show Kd.R k150 150 w w0.heap.size (fun k_ => (P0_ k_ ∨ w.heap.size ≤ k_)) u9000_ l0 from Kd.R_mono ho0 (fun k_ hk => (.inl hk)))
 have HK := AM_ (Kept.refl w (fun k_ => P0_ k_))
 have HW0 := AM_ hB.size
 have HB := AM_ hB
 clear hB
 have H : (laws_markLockS.l0 k l0 a1 0) = some (r1, r2) := h
 clear h
 have H' := AM_ H
 clear H
 go_enter Try.func113, Try.ntmps113
 go_wp2
 go_loopg [1, 5] k (fun kq v1 v5 w' => ∃ (x0_1 : List (S150)) (x1_1 : Int) (x5_1 : Int), v1 = .int .i64 x1_1 ∧ v5 = .int .i64 x5_1 ∧ Aside0 (laws_markLockS.l0 kq x0_1 x1_1 x5_1 = some (r1, r2)) ∧ Aside0 (kq ≤ k) ∧ Aside0 (Kd.R k150 150 w' w0.heap.size (fun k_ => (P0_ k_ ∨ w.heap.size ≤ k_)) u9000_ x0_1) ∧ Aside0 (Kept w w' (fun k_ => P0_ k_)) ∧ Aside0 (Below w0.heap.size w0 w'))
 case atStart => exact ⟨(l0), (a1), (0), (by first | rfl | (simp; done) | (simp [*]; done)), (by first | rfl | (simp; done) | (simp [*]; done)), H', ⟨Nat.le_refl _⟩, ⟨RT HO0.out⟩, ⟨by repeat (first | (with_reducible first | exact HK.out | apply Kept.alloc | apply Kept.drewN | apply Kept.drew) | exact HK.out)⟩, ⟨BT HB.out⟩⟩
 case round =>
  clear H'
  try clear c1
  try clear p2
  obtain ⟨x0_1, x1_1, x5_1, rfl, rfl, HA, HK1, HO_0, HK, HB⟩ := hrel
  cases gk with
  | zero => exact absurd HA.out (by simp [laws_markLockS.l0])
  | succ k1 =>
   have H := HA.out
   clear HA
   simp only [laws_markLockS.l0] at H
   by_cases c3 : x5_1 < (x0_1.length : Int)
   rotate_left
   ·rw [if_neg c3] at H
    have c3b0 : decide (x5_1 < (x0_1.length : Int)) = false := decide_eq_false c3
    clear c3
    simp only [Option.some.injEq, Prod.mk.injEq] at H
    obtain ⟨rfl, rfl⟩ := H
    obtain ⟨Ao12, co12, eo12⟩ := Kd.R_slice HO_0.out
    subst eo12
    go_wp2
    go_ret
    exact ⟨by first | rfl | (simp [errW_none, errW_some] <;> rfl) | (simp [*, errW_none, errW_some] <;> rfl), RT HO_0.out, BT HB.out, by repeat (first | (with_reducible first | exact HK.out | apply Kept.alloc | apply Kept.drewN | apply Kept.drew) | exact HK.out)⟩
   rw [if_pos c3] at H
   have c3b0 : decide (x5_1 < (x0_1.length : Int)) = true := decide_eq_true c3
   clear c3
   by_cases c4 : 0 ≤ x5_1
   rotate_left
   ·rw [if_neg c4] at H
    exact absurd H (by simp)
   rw [if_pos c4] at H
   have c4b0 : decide (0 ≤ x5_1) = true := decide_eq_true c4
   clear c4
   obtain ⟨y178, hy178⟩ : ∃ y_ : List (S150), y_ = (x0_1.set (x5_1 : Int).toNat (⟨x1_1, (rd_T150 x0_1 x5_1).f1⟩ : S150)) := ⟨_, rfl⟩
   replace H : (laws_markLockS.l0 k1 (y178.set (x5_1 : Int).toNat (⟨(rd_T150 y178 x5_1).f0, wrap64 (x1_1 + 1)⟩ : S150)) (wrap64 ((wrap64 (x1_1 + 1)) + 1)) (wrap64 (x5_1 + 1))) = some (r1, r2) := by first | (rw [hy178]; with_reducible exact H) | (have H2_ := (Option.bind_some _ _).symm.trans H; rw [hy178]; with_reducible exact H2_) | (have H2_ := (Option.bind_some _ _).symm.trans H; with_reducible exact H2_) | with_reducible exact H | (rw [hy178]; exact H) | exact H
   have Ny178 := AM_ hy178
   clear hy178
   obtain ⟨y179, hy179⟩ : ∃ y_ : List (S150), y_ = (y178.set (x5_1 : Int).toNat (⟨(rd_T150 y178 x5_1).f0, wrap64 (x1_1 + 1)⟩ : S150)) := ⟨_, rfl⟩
   replace H : (laws_markLockS.l0 k1 y179 (wrap64 ((wrap64 (x1_1 + 1)) + 1)) (wrap64 (x5_1 + 1))) = some (r1, r2) := by first | (rw [hy179]; with_reducible exact H) | (have H2_ := (Option.bind_some _ _).symm.trans H; rw [hy179]; with_reducible exact H2_) | (have H2_ := (Option.bind_some _ _).symm.trans H; with_reducible exact H2_) | with_reducible exact H | (rw [hy179]; exact H) | exact H
   have Ny179 := AM_ hy179
   clear hy179
   have H' := AM_ H
   clear H
   obtain ⟨Ao7, co7, eo7⟩ := Kd.R_slice HO_0.out
   subst eo7
   have p5 : 0 ≤ (x5_1 : Int) := DT
   have q5 : (x5_1 : Int) < ((x0_1.length : Int) : Int) := DT
   obtain ⟨go5, co5, eo5, gb5, gl5, cl5, HG5⟩ := Kd.R_form HO_0.out (by omega)
   (first | cases eo5 | (injection eo5 with ea_ en_ ec_; (first | subst ea_ | (injection ea_ with ea_; subst ea_)); subst ec_; clear en_))
   have GB5 := AM_ gb5
   have GG5 := AM_ HG5
   clear gb5 gl5 HG5
   have HMgo5 := AM_ (show (P0_ go5 ∨ w.heap.size ≤ go5) from (HO_0.out.1 _ rfl))
   obtain ⟨ce5, hcl5, hM5, hcc5, hfr5⟩ := Kd.R_elem HO_0.out z150 (x5_1 : Int) p5 q5
   obtain rfl := k150_openM hM5
   have hx5_0 : wr.cell? ⟨go5, (x5_1 : Int).toNat * 2, none⟩ = some (.int .i64 ((rd_T150 x0_1 x5_1).f0)) := hcc5 0 _ rfl
   have hx5_1 : wr.cell? ⟨go5, (x5_1 : Int).toNat * 2 + 1, none⟩ = some (.int .i64 ((rd_T150 x0_1 x5_1).f1)) := hcc5 1 _ rfl
   have hf5_0 : wr.frozen? ⟨go5, (x5_1 : Int).toNat * 2, none⟩ = false := hfr5 0
   have hf5_1 : wr.frozen? ⟨go5, (x5_1 : Int).toNat * 2 + 1, none⟩ = false := hfr5 1
   clear hcl5 hcc5 hfr5; (try clear hM5)
   replace p5 := eq_true p5
   replace q5 := eq_true q5
   have HX8 := AM_ (show Kd.R k150 150 wr w0.heap.size (fun k_ => (P0_ k_ ∨ w.heap.size ≤ k_)) (.slice (some ⟨go5, 0, none⟩) x0_1.length co7) x0_1 from (RT HO_0.out))
   obtain ⟨ce8, hcl8, hM8, hcc8, hfr8⟩ := Kd.R_elem HX8.out z150 (x5_1 : Int) (DT) (by have h_ : (x5_1 : Int) < ((x0_1.length : Int) : Int) := DT; first | exact h_ | (have e_ := (Kd.R_reads' HO_0.out).1; omega) | simpa using h_)
   obtain rfl := k150_openM hM8
   have HP8 := Kd.R_seg HX8.out (x5_1 : Int) (DT) (by have h_ : (x5_1 : Int) < ((x0_1.length : Int) : Int) := DT; first | exact h_ | (have e_ := (Kd.R_reads' HO_0.out).1; omega) | simpa using h_) (seg := [.int .i64 x1_1]) (j := 0) hcl8 hcc8 (show 1 ≤ 2 from by decide) (x' := (⟨x1_1, (rd_T150 x0_1 x5_1).f1⟩ : S150)) (k150_mkM _ _ _ (⟨x1_1, (rd_T150 x0_1 x5_1).f1⟩ : S150) ) (fun _ hk => hk)
   have hx8_0 := hcc8 0 _ rfl
   (try simp only [show (k150).sz = 2 from rfl, Nat.mul_one, Nat.add_zero] at hx8_0)
   have hf8_0 := hfr8 0
   (try simp only [show (k150).sz = 2 from rfl, Nat.mul_one, Nat.add_zero] at hf8_0)
   clear hcl8 hcc8 hfr8; (try clear hM8)
   go_wp2_with (first | ((with_reducible refine gate_store (t := 3) (p := 16) rfl ?_); refine store_event (t := 3) (p := 16) (v := ?vo_w9) (w1 := (wr.setCell ⟨go5, (x5_1 : Int).toNat * 2, none⟩ (.int .i64 x1_1))) ?hg ?ho ?hn ?hr ?_; (case ho => rfl); (case hg => rfl); (case hn => rfl); (case hr => first | (go_simp; done) | (go_simp; rfl)); intro w9 hw; have hg : wr.grownBy w9 (some go5) := (by rw [hw]; exact HP8.2); have hp_ : Kd.R k150 150 w9 w0.heap.size (fun k_ => (P0_ k_ ∨ w.heap.size ≤ k_)) (.slice (some ⟨go5, 0, none⟩) x0_1.length co7) y178 := (by rw [hw, Ny178.out]; exact HP8.1); clear HP8; replace HB := AM_ ((by rw [hw]; exact below_set (HB.out) GB5.out : Below w0.heap.size w0 w9)); replace HK := AM_ (Kept.of_grown (S := (fun k_ => P0_ k_)) hg (by repeat (first | (with_reducible first | exact HK.out | apply Kept.alloc | apply Kept.drewN | apply Kept.drew) | exact HK.out)) (fun k_ e_ => (HO_0.out.1 k_ e_))); replace HO_0 := AM_ (hp_); clear hg hw hp_; have p6 : 0 ≤ (x5_1 : Int) := DT; have q6 : (x5_1 : Int) < ((x0_1.length : Int) : Int) := DT; obtain ⟨ce6, hcl6, hM6, hcc6, hfr6⟩ := Kd.R_elem HO_0.out z150 (x5_1 : Int) p6 q6; obtain rfl := k150_openM hM6; have hx6_0 : w9.cell? ⟨go5, (x5_1 : Int).toNat * 2, none⟩ = some (.int .i64 ((rd_T150 y178 x5_1).f0)) := hcc6 0 _ rfl; have hx6_1 : w9.cell? ⟨go5, (x5_1 : Int).toNat * 2 + 1, none⟩ = some (.int .i64 ((rd_T150 y178 x5_1).f1)) := hcc6 1 _ rfl; have hf6_0 : w9.frozen? ⟨go5, (x5_1 : Int).toNat * 2, none⟩ = false := hfr6 0; have hf6_1 : w9.frozen? ⟨go5, (x5_1 : Int).toNat * 2 + 1, none⟩ = false := hfr6 1; clear hcl6 hcc6 hfr6; (try clear hM6); replace p6 := eq_true p6; replace q6 := eq_true q6; have HX10 := AM_ (show Kd.R k150 150 w9 w0.heap.size (fun k_ => (P0_ k_ ∨ w.heap.size ≤ k_)) (.slice (some ⟨go5, 0, none⟩) x0_1.length co7) y178 from (RT HO_0.out)); obtain ⟨ce10, hcl10, hM10, hcc10, hfr10⟩ := Kd.R_elem HX10.out z150 (x5_1 : Int) (DT) (by have h_ : (x5_1 : Int) < ((x0_1.length : Int) : Int) := DT; first | exact h_ | (have e_ := (Kd.R_reads' HO_0.out).1; omega) | simpa using h_); obtain rfl := k150_openM hM10; have HP10 := Kd.R_seg HX10.out (x5_1 : Int) (DT) (by have h_ : (x5_1 : Int) < ((x0_1.length : Int) : Int) := DT; first | exact h_ | (have e_ := (Kd.R_reads' HO_0.out).1; omega) | simpa using h_) (seg := [.int .i64 (wrap64 (x1_1 + 1))]) (j := 1) hcl10 hcc10 (show 2 ≤ 2 from by decide) (x' := (⟨(rd_T150 y178 x5_1).f0, wrap64 (x1_1 + 1)⟩ : S150)) (k150_mkM _ _ _ (⟨(rd_T150 y178 x5_1).f0, wrap64 (x1_1 + 1)⟩ : S150) ) (fun _ hk => hk); have hx10_1 := hcc10 1 _ rfl; (try simp only [show (k150).sz = 2 from rfl, Nat.mul_one, Nat.add_zero] at hx10_1); have hf10_1 := hfr10 1; (try simp only [show (k150).sz = 2 from rfl, Nat.mul_one, Nat.add_zero] at hf10_1); clear hcl10 hcc10 hfr10; (try clear hM10)) | ((with_reducible refine gate_store (t := 3) (p := 23) rfl ?_); refine store_event (t := 3) (p := 23) (v := ?vo_w11) (w1 := (w9.setCell ⟨go5, (x5_1 : Int).toNat * 2 + 1, none⟩ (.int .i64 (wrap64 (x1_1 + 1))))) ?hg ?ho ?hn ?hr ?_; (case ho => rfl); (case hg => rfl); (case hn => rfl); (case hr => first | (go_simp; done) | (go_simp; rfl)); intro w11 hw; have hg : w9.grownBy w11 (some go5) := (by rw [hw]; exact HP10.2); have hp_ : Kd.R k150 150 w11 w0.heap.size (fun k_ => (P0_ k_ ∨ w.heap.size ≤ k_)) (.slice (some ⟨go5, 0, none⟩) x0_1.length co7) y179 := (by rw [hw, Ny179.out]; exact HP10.1); clear HP10; replace HB := AM_ ((by rw [hw]; exact below_set (HB.out) GB5.out : Below w0.heap.size w0 w11)); replace HK := AM_ (Kept.of_grown (S := (fun k_ => P0_ k_)) hg (by repeat (first | (with_reducible first | exact HK.out | apply Kept.alloc | apply Kept.drewN | apply Kept.drew) | exact HK.out)) (fun k_ e_ => (HO_0.out.1 k_ e_))); replace HO_0 := AM_ (hp_); clear hg hw hp_))
   go_roundg k1
   case measure => have := HK1.out; omega
   case rel => exact ⟨(y179), (wrap64 ((wrap64 (x1_1 + 1)) + 1)), (wrap64 (x5_1 + 1)), (by first | rfl | (simp; done) | (simp [*]; done)), (by first | rfl | (simp; done) | (simp [*]; done)), H', ⟨by have := HK1.out; omega⟩, ⟨RT HO_0.out⟩, ⟨by repeat (first | (with_reducible first | exact HK.out | apply Kept.alloc | apply Kept.drewN | apply Kept.drew) | exact HK.out)⟩, ⟨BT HB.out⟩⟩

/-! ### laws_markWaitS: function 114 -/
def laws_markWaitS.l0 : Nat → List (S36) → Int → Int → Option (Int × (List (S36)))
 | 0, _, _, _ => none
 | k + 1, x0, x1, x5 => if x5 < (x0.length : Int) then (if 0 ≤ x5 then ((some (x0.set (x5 : Int).toNat (⟨x1, (rd_T36 x0 x5).f1⟩ : S36) : List (S36))).bind fun y180 => (laws_markWaitS.l0 k (y180.set (x5 : Int).toNat (⟨(rd_T36 y180 x5).f0, wrap64 (x1 + 1)⟩ : S36)) (wrap64 ((wrap64 (x1 + 1)) + 1)) (wrap64 (x5 + 1)))) else (none)) else (some (x1, x0))
def laws_markWaitS.f (k : Nat) (l0 : List (S36)) (a1 : Int) : Option (Int × (List (S36))) := laws_markWaitS.l0 k l0 a1 0
theorem laws_markWaitS.mono_l : ∀ k, (∀ y0 y1 y2, LeO (laws_markWaitS.l0 k y0 y1 y2) (laws_markWaitS.l0 (k + 1) y0 y1 y2))
 | 0 => fun _ _ _ r h => by simp [laws_markWaitS.l0] at h
 | k + 1 => by
  have ih0 := laws_markWaitS.mono_l k
  ·intro y0 y1 y2
   unfold laws_markWaitS.l0
   repeat' first
   | (with_reducible exact ih0 _ _ _)
   | (with_reducible exact LeO.refl _)
   | (with_reducible exact LeO.none _)
   | (with_reducible refine LeO.ite ?_ ?_)
   | (with_reducible refine LeO.bind ?_ (fun _ => ?_))
   | exact ih0 _ _ _
   | exact LeO.none _
   | refine LeO.ite ?_ ?_
   | refine LeO.bind ?_ (fun _ => ?_)
theorem laws_markWaitS.mono : ∀ a0 a1 k, LeO (laws_markWaitS.f k a0 a1) (laws_markWaitS.f (k + 1) a0 a1) := by
 intro a0 a1 k
 have ih0 := laws_markWaitS.mono_l k
 unfold laws_markWaitS.f
 repeat' first
   | (with_reducible exact ih0 _ _ _)
   | (with_reducible exact LeO.refl _)
   | (with_reducible exact LeO.none _)
   | (with_reducible refine LeO.ite ?_ ?_)
   | (with_reducible refine LeO.bind ?_ (fun _ => ?_))
   | exact ih0 _ _ _
   | exact LeO.none _
   | refine LeO.ite ?_ ?_
   | refine LeO.bind ?_ (fun _ => ?_)
set_option maxHeartbeats 8000000 in
set_option maxRecDepth 100000 in
theorem laws_markWaitS.calls (k : Nat) (P0_ : Nat → Prop) (u9000_ : Value) (l0 : List (S36)) (a1 : Int) (r1 : Int) (r2 : List (S36)) (w0 w : World) (hB : Below w0.heap.size w0 w) (ho0 : Kd.R k36 36 w w0.heap.size P0_ u9000_ l0) (h : laws_markWaitS.f k l0 a1 = some (r1, r2)) :
  Calls Try.prog 114 #[u9000_, .int .i64 a1] w fun e w' => e = .returned (.int .i64 r1) ∧ Kd.R k36 36 w' w0.heap.size (fun k_ => (P0_ k_ ∨ w.heap.size ≤ k_)) u9000_ r2 ∧ Below w0.heap.size w0 w' ∧ Kept w w' (fun k_ => P0_ k_) := by
 have HO0 := AM_ (show Kd.R k36 36 w w0.heap.size (fun k_ => (P0_ k_ ∨ w.heap.size ≤ k_)) u9000_ l0 from Kd.R_mono ho0 (fun k_ hk => (.inl hk)))
 have HK := AM_ (Kept.refl w (fun k_ => P0_ k_))
 have HW0 := AM_ hB.size
 have HB := AM_ hB
 clear hB
 have H : (laws_markWaitS.l0 k l0 a1 0) = some (r1, r2) := h
 clear h
 have H' := AM_ H
 clear H
 go_enter Try.func114, Try.ntmps114
 go_wp2
 go_loopg [1, 5] k (fun kq v1 v5 w' => ∃ (x0_1 : List (S36)) (x1_1 : Int) (x5_1 : Int), v1 = .int .i64 x1_1 ∧ v5 = .int .i64 x5_1 ∧ Aside0 (laws_markWaitS.l0 kq x0_1 x1_1 x5_1 = some (r1, r2)) ∧ Aside0 (kq ≤ k) ∧ Aside0 (Kd.R k36 36 w' w0.heap.size (fun k_ => (P0_ k_ ∨ w.heap.size ≤ k_)) u9000_ x0_1) ∧ Aside0 (Kept w w' (fun k_ => P0_ k_)) ∧ Aside0 (Below w0.heap.size w0 w'))
 case atStart => exact ⟨(l0), (a1), (0), (by first | rfl | (simp; done) | (simp [*]; done)), (by first | rfl | (simp; done) | (simp [*]; done)), H', ⟨Nat.le_refl _⟩, ⟨RT HO0.out⟩, ⟨by repeat (first | (with_reducible first | exact HK.out | apply Kept.alloc | apply Kept.drewN | apply Kept.drew) | exact HK.out)⟩, ⟨BT HB.out⟩⟩
 case round =>
  clear H'
  try clear c1
  try clear p2
  obtain ⟨x0_1, x1_1, x5_1, rfl, rfl, HA, HK1, HO_0, HK, HB⟩ := hrel
  cases gk with
  | zero => exact absurd HA.out (by simp [laws_markWaitS.l0])
  | succ k1 =>
   have H := HA.out
   clear HA
   simp only [laws_markWaitS.l0] at H
   by_cases c3 : x5_1 < (x0_1.length : Int)
   rotate_left
   ·rw [if_neg c3] at H
    have c3b0 : decide (x5_1 < (x0_1.length : Int)) = false := decide_eq_false c3
    clear c3
    simp only [Option.some.injEq, Prod.mk.injEq] at H
    obtain ⟨rfl, rfl⟩ := H
    obtain ⟨Ao12, co12, eo12⟩ := Kd.R_slice HO_0.out
    subst eo12
    go_wp2
    go_ret
    exact ⟨by first | rfl | (simp [errW_none, errW_some] <;> rfl) | (simp [*, errW_none, errW_some] <;> rfl), RT HO_0.out, BT HB.out, by repeat (first | (with_reducible first | exact HK.out | apply Kept.alloc | apply Kept.drewN | apply Kept.drew) | exact HK.out)⟩
   rw [if_pos c3] at H
   have c3b0 : decide (x5_1 < (x0_1.length : Int)) = true := decide_eq_true c3
   clear c3
   by_cases c4 : 0 ≤ x5_1
   rotate_left
   ·rw [if_neg c4] at H
    exact absurd H (by simp)
   rw [if_pos c4] at H
   have c4b0 : decide (0 ≤ x5_1) = true := decide_eq_true c4
   clear c4
   obtain ⟨y180, hy180⟩ : ∃ y_ : List (S36), y_ = (x0_1.set (x5_1 : Int).toNat (⟨x1_1, (rd_T36 x0_1 x5_1).f1⟩ : S36)) := ⟨_, rfl⟩
   replace H : (laws_markWaitS.l0 k1 (y180.set (x5_1 : Int).toNat (⟨(rd_T36 y180 x5_1).f0, wrap64 (x1_1 + 1)⟩ : S36)) (wrap64 ((wrap64 (x1_1 + 1)) + 1)) (wrap64 (x5_1 + 1))) = some (r1, r2) := by first | (rw [hy180]; with_reducible exact H) | (have H2_ := (Option.bind_some _ _).symm.trans H; rw [hy180]; with_reducible exact H2_) | (have H2_ := (Option.bind_some _ _).symm.trans H; with_reducible exact H2_) | with_reducible exact H | (rw [hy180]; exact H) | exact H
   have Ny180 := AM_ hy180
   clear hy180
   obtain ⟨y181, hy181⟩ : ∃ y_ : List (S36), y_ = (y180.set (x5_1 : Int).toNat (⟨(rd_T36 y180 x5_1).f0, wrap64 (x1_1 + 1)⟩ : S36)) := ⟨_, rfl⟩
   replace H : (laws_markWaitS.l0 k1 y181 (wrap64 ((wrap64 (x1_1 + 1)) + 1)) (wrap64 (x5_1 + 1))) = some (r1, r2) := by first | (rw [hy181]; with_reducible exact H) | (have H2_ := (Option.bind_some _ _).symm.trans H; rw [hy181]; with_reducible exact H2_) | (have H2_ := (Option.bind_some _ _).symm.trans H; with_reducible exact H2_) | with_reducible exact H | (rw [hy181]; exact H) | exact H
   have Ny181 := AM_ hy181
   clear hy181
   have H' := AM_ H
   clear H
   obtain ⟨Ao7, co7, eo7⟩ := Kd.R_slice HO_0.out
   subst eo7
   have p5 : 0 ≤ (x5_1 : Int) := DT
   have q5 : (x5_1 : Int) < ((x0_1.length : Int) : Int) := DT
   obtain ⟨go5, co5, eo5, gb5, gl5, cl5, HG5⟩ := Kd.R_form HO_0.out (by omega)
   (first | cases eo5 | (injection eo5 with ea_ en_ ec_; (first | subst ea_ | (injection ea_ with ea_; subst ea_)); subst ec_; clear en_))
   have GB5 := AM_ gb5
   have GG5 := AM_ HG5
   clear gb5 gl5 HG5
   have HMgo5 := AM_ (show (P0_ go5 ∨ w.heap.size ≤ go5) from (HO_0.out.1 _ rfl))
   obtain ⟨ce5, hcl5, hM5, hcc5, hfr5⟩ := Kd.R_elem HO_0.out z36 (x5_1 : Int) p5 q5
   obtain rfl := k36_openM hM5
   have hx5_0 : wr.cell? ⟨go5, (x5_1 : Int).toNat * 2, none⟩ = some (.int .i64 ((rd_T36 x0_1 x5_1).f0)) := hcc5 0 _ rfl
   have hx5_1 : wr.cell? ⟨go5, (x5_1 : Int).toNat * 2 + 1, none⟩ = some (.int .i64 ((rd_T36 x0_1 x5_1).f1)) := hcc5 1 _ rfl
   have hf5_0 : wr.frozen? ⟨go5, (x5_1 : Int).toNat * 2, none⟩ = false := hfr5 0
   have hf5_1 : wr.frozen? ⟨go5, (x5_1 : Int).toNat * 2 + 1, none⟩ = false := hfr5 1
   clear hcl5 hcc5 hfr5; (try clear hM5)
   replace p5 := eq_true p5
   replace q5 := eq_true q5
   have HX8 := AM_ (show Kd.R k36 36 wr w0.heap.size (fun k_ => (P0_ k_ ∨ w.heap.size ≤ k_)) (.slice (some ⟨go5, 0, none⟩) x0_1.length co7) x0_1 from (RT HO_0.out))
   obtain ⟨ce8, hcl8, hM8, hcc8, hfr8⟩ := Kd.R_elem HX8.out z36 (x5_1 : Int) (DT) (by have h_ : (x5_1 : Int) < ((x0_1.length : Int) : Int) := DT; first | exact h_ | (have e_ := (Kd.R_reads' HO_0.out).1; omega) | simpa using h_)
   obtain rfl := k36_openM hM8
   have HP8 := Kd.R_seg HX8.out (x5_1 : Int) (DT) (by have h_ : (x5_1 : Int) < ((x0_1.length : Int) : Int) := DT; first | exact h_ | (have e_ := (Kd.R_reads' HO_0.out).1; omega) | simpa using h_) (seg := [.int .i64 x1_1]) (j := 0) hcl8 hcc8 (show 1 ≤ 2 from by decide) (x' := (⟨x1_1, (rd_T36 x0_1 x5_1).f1⟩ : S36)) (k36_mkM _ _ _ (⟨x1_1, (rd_T36 x0_1 x5_1).f1⟩ : S36) ) (fun _ hk => hk)
   have hx8_0 := hcc8 0 _ rfl
   (try simp only [show (k36).sz = 2 from rfl, Nat.mul_one, Nat.add_zero] at hx8_0)
   have hf8_0 := hfr8 0
   (try simp only [show (k36).sz = 2 from rfl, Nat.mul_one, Nat.add_zero] at hf8_0)
   clear hcl8 hcc8 hfr8; (try clear hM8)
   go_wp2_with (first | ((with_reducible refine gate_store (t := 3) (p := 16) rfl ?_); refine store_event (t := 3) (p := 16) (v := ?vo_w9) (w1 := (wr.setCell ⟨go5, (x5_1 : Int).toNat * 2, none⟩ (.int .i64 x1_1))) ?hg ?ho ?hn ?hr ?_; (case ho => rfl); (case hg => rfl); (case hn => rfl); (case hr => first | (go_simp; done) | (go_simp; rfl)); intro w9 hw; have hg : wr.grownBy w9 (some go5) := (by rw [hw]; exact HP8.2); have hp_ : Kd.R k36 36 w9 w0.heap.size (fun k_ => (P0_ k_ ∨ w.heap.size ≤ k_)) (.slice (some ⟨go5, 0, none⟩) x0_1.length co7) y180 := (by rw [hw, Ny180.out]; exact HP8.1); clear HP8; replace HB := AM_ ((by rw [hw]; exact below_set (HB.out) GB5.out : Below w0.heap.size w0 w9)); replace HK := AM_ (Kept.of_grown (S := (fun k_ => P0_ k_)) hg (by repeat (first | (with_reducible first | exact HK.out | apply Kept.alloc | apply Kept.drewN | apply Kept.drew) | exact HK.out)) (fun k_ e_ => (HO_0.out.1 k_ e_))); replace HO_0 := AM_ (hp_); clear hg hw hp_; have p6 : 0 ≤ (x5_1 : Int) := DT; have q6 : (x5_1 : Int) < ((x0_1.length : Int) : Int) := DT; obtain ⟨ce6, hcl6, hM6, hcc6, hfr6⟩ := Kd.R_elem HO_0.out z36 (x5_1 : Int) p6 q6; obtain rfl := k36_openM hM6; have hx6_0 : w9.cell? ⟨go5, (x5_1 : Int).toNat * 2, none⟩ = some (.int .i64 ((rd_T36 y180 x5_1).f0)) := hcc6 0 _ rfl; have hx6_1 : w9.cell? ⟨go5, (x5_1 : Int).toNat * 2 + 1, none⟩ = some (.int .i64 ((rd_T36 y180 x5_1).f1)) := hcc6 1 _ rfl; have hf6_0 : w9.frozen? ⟨go5, (x5_1 : Int).toNat * 2, none⟩ = false := hfr6 0; have hf6_1 : w9.frozen? ⟨go5, (x5_1 : Int).toNat * 2 + 1, none⟩ = false := hfr6 1; clear hcl6 hcc6 hfr6; (try clear hM6); replace p6 := eq_true p6; replace q6 := eq_true q6; have HX10 := AM_ (show Kd.R k36 36 w9 w0.heap.size (fun k_ => (P0_ k_ ∨ w.heap.size ≤ k_)) (.slice (some ⟨go5, 0, none⟩) x0_1.length co7) y180 from (RT HO_0.out)); obtain ⟨ce10, hcl10, hM10, hcc10, hfr10⟩ := Kd.R_elem HX10.out z36 (x5_1 : Int) (DT) (by have h_ : (x5_1 : Int) < ((x0_1.length : Int) : Int) := DT; first | exact h_ | (have e_ := (Kd.R_reads' HO_0.out).1; omega) | simpa using h_); obtain rfl := k36_openM hM10; have HP10 := Kd.R_seg HX10.out (x5_1 : Int) (DT) (by have h_ : (x5_1 : Int) < ((x0_1.length : Int) : Int) := DT; first | exact h_ | (have e_ := (Kd.R_reads' HO_0.out).1; omega) | simpa using h_) (seg := [.int .i64 (wrap64 (x1_1 + 1))]) (j := 1) hcl10 hcc10 (show 2 ≤ 2 from by decide) (x' := (⟨(rd_T36 y180 x5_1).f0, wrap64 (x1_1 + 1)⟩ : S36)) (k36_mkM _ _ _ (⟨(rd_T36 y180 x5_1).f0, wrap64 (x1_1 + 1)⟩ : S36) ) (fun _ hk => hk); have hx10_1 := hcc10 1 _ rfl; (try simp only [show (k36).sz = 2 from rfl, Nat.mul_one, Nat.add_zero] at hx10_1); have hf10_1 := hfr10 1; (try simp only [show (k36).sz = 2 from rfl, Nat.mul_one, Nat.add_zero] at hf10_1); clear hcl10 hcc10 hfr10; (try clear hM10)) | ((with_reducible refine gate_store (t := 3) (p := 23) rfl ?_); refine store_event (t := 3) (p := 23) (v := ?vo_w11) (w1 := (w9.setCell ⟨go5, (x5_1 : Int).toNat * 2 + 1, none⟩ (.int .i64 (wrap64 (x1_1 + 1))))) ?hg ?ho ?hn ?hr ?_; (case ho => rfl); (case hg => rfl); (case hn => rfl); (case hr => first | (go_simp; done) | (go_simp; rfl)); intro w11 hw; have hg : w9.grownBy w11 (some go5) := (by rw [hw]; exact HP10.2); have hp_ : Kd.R k36 36 w11 w0.heap.size (fun k_ => (P0_ k_ ∨ w.heap.size ≤ k_)) (.slice (some ⟨go5, 0, none⟩) x0_1.length co7) y181 := (by rw [hw, Ny181.out]; exact HP10.1); clear HP10; replace HB := AM_ ((by rw [hw]; exact below_set (HB.out) GB5.out : Below w0.heap.size w0 w11)); replace HK := AM_ (Kept.of_grown (S := (fun k_ => P0_ k_)) hg (by repeat (first | (with_reducible first | exact HK.out | apply Kept.alloc | apply Kept.drewN | apply Kept.drew) | exact HK.out)) (fun k_ e_ => (HO_0.out.1 k_ e_))); replace HO_0 := AM_ (hp_); clear hg hw hp_))
   go_roundg k1
   case measure => have := HK1.out; omega
   case rel => exact ⟨(y181), (wrap64 ((wrap64 (x1_1 + 1)) + 1)), (wrap64 (x5_1 + 1)), (by first | rfl | (simp; done) | (simp [*]; done)), (by first | rfl | (simp; done) | (simp [*]; done)), H', ⟨by have := HK1.out; omega⟩, ⟨RT HO_0.out⟩, ⟨by repeat (first | (with_reducible first | exact HK.out | apply Kept.alloc | apply Kept.drewN | apply Kept.drew) | exact HK.out)⟩, ⟨BT HB.out⟩⟩

/-! ### laws_markEngine: function 42 -/
theorem laws_markEngine_nest {α : Type} {d : Kd α} {e : Nat} {w : World} {base : Nat} {ok : Nat → Prop} {v : Value} {xs : List α} (h : Kd.S d e w base ok v xs) : ∃ P : Nat → Prop, Kd.S d e w base P v xs ∧ (∀ k, P k → ok k) ∧ (∀ k, P k → ∃ q, q ∈ e :: d.E ∧ ∃ cells, w.heap[k]? = some (.cells cells q (0, 0))) :=
 ⟨_, Kd.S_bound h, fun _ hk => hk.1, fun _ hk => hk.2.2.2⟩
theorem laws_markEngine_nestS {α : Type} {d : Kd α} {e : Nat} {w : World} {base : Nat} {ok : Nat → Prop} {v : Value} {xs : List α} (h : Kd.S d e w base ok v xs) : ∃ P : Nat → Prop, Kd.S d e w base P v xs ∧ (∀ k, P k → ok k) ∧ (∀ k, P k → ∃ q, q ∈ e :: d.E ∧ ∃ cells, w.heap[k]? = some (.cells cells q (0, 0))) := laws_markEngine_nest h
theorem laws_markEngine_nestR {α : Type} {d : Kd α} {e : Nat} {w : World} {base : Nat} {ok : Nat → Prop} {v : Value} {xs : List α} (h : Kd.R d e w base ok v xs) : ∃ P : Nat → Prop, Kd.R d e w base P v xs ∧ (∀ k, P k → ok k) ∧ (∀ k, P k → ∃ q, q ∈ e :: d.E ∧ ∃ cells, w.heap[k]? = some (.cells cells q (0, 0))) :=
 ⟨_, Kd.R_bound h, fun _ hk => hk.1, fun _ hk => hk.2.2.2⟩
theorem laws_markEngine_apart {α : Type} {d : Kd α} {e : Nat} {w : World} {base : Nat} {ok P : Nat → Prop} {v : Value} {xs : List α} (hE : d.E = []) (h : d.R e w base ok v xs) (hs : ∀ k, v.ownBlock = some k → ¬ P k) : d.R e w base (fun k => ok k ∧ ¬ P k) v xs :=
 Kd.R_mono (Kd.R_tight2 hE h) (fun k hk => ⟨hk.2, hs k hk.1.symm⟩)
theorem laws_markEngine_types {w : World} {k e' : Nat} {L : List Nat} (h1 : ∃ cells, w.heap[k]? = some (.cells cells e' (0, 0))) (h2 : ∃ q, q ∈ L ∧ ∃ cells, w.heap[k]? = some (.cells cells q (0, 0))) (hL : ∀ q, q ∈ L → q ≠ e') : False := by
 obtain ⟨c1, h1⟩ := h1
 obtain ⟨q, hq, c2, h2⟩ := h2
 rw [h1] at h2
 injection h2 with h2
 injection h2 with _ h3
 exact hL q hq h3.symm
theorem laws_markEngine_types2 {w : World} {k : Nat} {L M : List Nat} (h1 : ∃ q, q ∈ M ∧ ∃ cells, w.heap[k]? = some (.cells cells q (0, 0))) (h2 : ∃ q, q ∈ L ∧ ∃ cells, w.heap[k]? = some (.cells cells q (0, 0))) (hL : ∀ p, p ∈ M → ∀ q, q ∈ L → q ≠ p) : False := by
 obtain ⟨p, hp, h1⟩ := h1
 exact laws_markEngine_types h1 h2 (hL p hp)
def laws_markEngine.f (k : Nat) (a0_0 : Bool) (l0_1 : List (List (S76))) (l0_2 : List (S68)) (l0_3 : List (S150)) (l0_4 : List (S36)) (a0_5 : Int) (a1 : Int) : Option (Int × List (List (S76)) × List (S68) × List (S150) × List (S36)) := (laws_markStore.f k l0_1 a1).bind fun t1 => (laws_markTransactionS.f k l0_2 t1.1).bind fun t2 => (laws_markLockS.f k l0_3 t2.1).bind fun t3 => (laws_markWaitS.f k l0_4 t3.1).bind fun t4 => some (t4.1, t1.2, t2.2, t3.2, t4.2)
theorem laws_markEngine.mono : ∀ a0 a1 a2 a3 a4 a5 a6 k, LeO (laws_markEngine.f k a0 a1 a2 a3 a4 a5 a6) (laws_markEngine.f (k + 1) a0 a1 a2 a3 a4 a5 a6) := by
 intro a0 a1 a2 a3 a4 a5 a6 k
 unfold laws_markEngine.f
 repeat' first
   | exact LeO.refl _
   | refine LeO.bind (laws_markStore.mono _ _ _) (fun _ => ?_)
   | refine LeO.bind (laws_markTransactionS.mono _ _ _) (fun _ => ?_)
   | refine LeO.bind (laws_markLockS.mono _ _ _) (fun _ => ?_)
   | refine LeO.bind (laws_markWaitS.mono _ _ _) (fun _ => ?_)
set_option maxHeartbeats 8000000 in
set_option maxRecDepth 100000 in
theorem laws_markEngine.calls (k : Nat) (a0_0 : Bool) (P0_1_ : Nat → Prop) (u0_1_ : Value) (l0_1 : List (List (S76))) (P0_2_ : Nat → Prop) (u0_2_ : Value) (l0_2 : List (S68)) (P0_3_ : Nat → Prop) (u0_3_ : Value) (l0_3 : List (S150)) (P0_4_ : Nat → Prop) (u0_4_ : Value) (l0_4 : List (S36)) (a0_5 : Int) (a1 : Int) (r1 : Int) (y1 : List (List (S76))) (y2 : List (S68)) (y3 : List (S150)) (y4 : List (S36)) (w0 w : World) (hB : Below w0.heap.size w0 w) (ho0_1 : Kd.S (Kd.slice 76 k76) 90 w w0.heap.size P0_1_ u0_1_ l0_1) (ho0_2 : Kd.S k68 68 w w0.heap.size P0_2_ u0_2_ l0_2) (ho0_3 : Kd.R k150 150 w w0.heap.size P0_3_ u0_3_ l0_3) (ho0_4 : Kd.R k36 36 w w0.heap.size P0_4_ u0_4_ l0_4) (h : laws_markEngine.f k a0_0 l0_1 l0_2 l0_3 l0_4 a0_5 a1 = some (r1, y1, y2, y3, y4)) :
  Calls Try.prog 42 #[.agg #[.bool a0_0, u0_1_, u0_2_, u0_3_, u0_4_, .int .i64 a0_5], .int .i64 a1] w fun e w' => e = .returned (.int .i64 r1) ∧ Kd.S (Kd.slice 76 k76) 90 w' w0.heap.size P0_1_ u0_1_ y1 ∧ Kd.S k68 68 w' w0.heap.size P0_2_ u0_2_ y2 ∧ Kd.R k150 150 w' w0.heap.size P0_3_ u0_3_ y3 ∧ Kd.R k36 36 w' w0.heap.size P0_4_ u0_4_ y4 ∧ Below w0.heap.size w0 w' ∧ Kept w w' (fun k_ => P0_1_ k_ ∨ (P0_2_ k_ ∨ (P0_3_ k_ ∨ P0_4_ k_))) := by
 have hu53 := Try.underlying53
 have hu49 := Try.underlying49
 unfold laws_markEngine.f at h
 replace h := Option.bind_eq_some_iff.mp h
 obtain ⟨⟨t1, z1⟩, A1, h⟩ := h
 replace h := Option.bind_eq_some_iff.mp h
 obtain ⟨⟨t2, z2⟩, A2, h⟩ := h
 replace h := Option.bind_eq_some_iff.mp h
 obtain ⟨⟨t3, z3⟩, A3, h⟩ := h
 replace h := Option.bind_eq_some_iff.mp h
 obtain ⟨⟨t4, z4⟩, A4, h⟩ := h
 obtain ⟨rfl, rfl, rfl, rfl, rfl⟩ : t4 = r1 ∧ z1 = y1 ∧ z2 = y2 ∧ z3 = y3 ∧ z4 = y4 := by simpa [Prod.mk.injEq] using Option.some.inj h
 have HA1 := AM_ A1
 have HA2 := AM_ A2
 have HA3 := AM_ A3
 have HA4 := AM_ A4
 clear h A1 A2 A3 A4
 have HB := AM_ hB
 have HK := AM_ (Kept.refl w (fun k_ => P0_1_ k_ ∨ (P0_2_ k_ ∨ (P0_3_ k_ ∨ P0_4_ k_))))
 obtain ⟨Ao1, co1, eo1⟩ := Kd.S_slice ho0_1
 subst eo1
 obtain ⟨PQ1, ho_1, hi_1, _⟩ := laws_markEngine_nestS ho0_1
 have HO1 := AM_ ho_1
 have HI1 := AM_ hi_1
 clear ho0_1 ho_1 hi_1
 obtain ⟨Ao2, co2, eo2⟩ := Kd.S_slice ho0_2
 subst eo2
 obtain ⟨PQ2, ho_2, hi_2, _⟩ := laws_markEngine_nestS ho0_2
 have HO2 := AM_ ho_2
 have HI2 := AM_ hi_2
 clear ho0_2 ho_2 hi_2
 obtain ⟨Ao3, co3, eo3⟩ := Kd.R_slice ho0_3
 subst eo3
 obtain ⟨PQ3, ho_3, hi_3, _⟩ := laws_markEngine_nestR ho0_3
 have HO3 := AM_ ho_3
 have HI3 := AM_ hi_3
 clear ho0_3 ho_3 hi_3
 obtain ⟨Ao4, co4, eo4⟩ := Kd.R_slice ho0_4
 subst eo4
 obtain ⟨PQ4, ho_4, hi_4, _⟩ := laws_markEngine_nestR ho0_4
 have HO4 := AM_ ho_4
 have HI4 := AM_ hi_4
 clear ho0_4 ho_4 hi_4
 clear hB
 go_enter Try.func42, Try.ntmps42
 go_wp2_with (first | ((with_reducible refine gate_dst (N := 2) rfl ?_); refine box_event ?hg (N := 2) ?hd (cs := #[.bool a0_0, .slice Ao1 l0_1.length co1, .slice Ao2 l0_2.length co2, .slice Ao3 l0_3.length co3, .slice Ao4 l0_4.length co4, .int .i64 a0_5]) (t := 53) ?hr ?_; (case hd => rfl); (case hg => rfl); (case hr => first | (go_simp; done) | (go_simp; rfl)); intro gb0 hg w7 hbox hb; have m1_ := AM_ (Kd.S_below (ST HO1.out) hb); have m2_ := AM_ (Kd.S_below (ST HO2.out) hb); have m3_ := AM_ (Kd.R_below (RT HO3.out) hb); have m4_ := AM_ (Kd.R_below (RT HO4.out) hb); have n1_ := AM_ (below_step (BT HB.out) hb); have n2_ := AM_ (Kept.below (by repeat (first | (with_reducible first | exact HK.out | apply Kept.alloc | apply Kept.drewN | apply Kept.drew) | exact HK.out)) hb); have hc1_ : w7.cell? ⟨gb0, 1, none⟩ = some (.slice Ao1 l0_1.length co1) := (blk_cell hbox 1).trans rfl; have hc2_ : w7.cell? ⟨gb0, 2, none⟩ = some (.slice Ao2 l0_2.length co2) := (blk_cell hbox 2).trans rfl; have hc3_ : w7.cell? ⟨gb0, 3, none⟩ = some (.slice Ao3 l0_3.length co3) := (blk_cell hbox 3).trans rfl; have hc4_ : w7.cell? ⟨gb0, 4, none⟩ = some (.slice Ao4 l0_4.length co4) := (blk_cell hbox 4).trans rfl; have HX := AM_ hbox; have HT := AM_ hg; clear HO1 HO2 HO3 HO4 HB HK; have HO1 := m1_; have HO2 := m2_; have HO3 := m3_; have HO4 := m4_; have HB := n1_; have HK := n2_; clear m1_ m2_ m3_ m4_ n1_ n2_ hb hbox hg) | (go_at_call 62; obtain ⟨PN11, hpn1, hpo1, hpt1⟩ := laws_markEngine_nestS (show Kd.S (Kd.slice 76 k76) 90 w7 w0.heap.size PQ1 (.slice Ao1 l0_1.length co1) l0_1 from HO1.out); obtain ⟨PN12, hpn2, hpo2, hpt2⟩ := laws_markEngine_nestS (show Kd.S k68 68 w7 w0.heap.size PQ2 (.slice Ao2 l0_2.length co2) l0_2 from HO2.out); obtain ⟨PN13, hpn3, hpo3, hpt3⟩ := laws_markEngine_nestR (show Kd.R k150 150 w7 w0.heap.size PQ3 (.slice Ao3 l0_3.length co3) l0_3 from HO3.out); obtain ⟨PN14, hpn4, hpo4, hpt4⟩ := laws_markEngine_nestR (show Kd.R k36 36 w7 w0.heap.size PQ4 (.slice Ao4 l0_4.length co4) l0_4 from HO4.out); (with_reducible refine (laws_markStore.calls k PN11 (.slice Ao1 l0_1.length co1) l0_1 a1 t1 z1 w0 _ ?side1 hpn1 HA1.out).mono ?_); (case side1 => exact (BT HB.out)); rintro e w11 ⟨rfl, hy, hb, hkp⟩; have n0_ := AM_ (Kept.then_ (S := (fun k_ => P0_1_ k_ ∨ (P0_2_ k_ ∨ (P0_3_ k_ ∨ P0_4_ k_)))) (w := w) (by repeat (first | (with_reducible first | exact HK.out | apply Kept.alloc | apply Kept.drewN | apply Kept.drew) | exact HK.out)) hkp (fun k_ hk_ => .inl (.inl (HI1.out k_ (hpo1 k_ hk_))))); have m2_ := AM_ (Kd.S_kept hpn2 hkp (fun k_ h1_ h2_ => laws_markEngine_types2 (hpt2 k_ h1_) (hpt1 k_ h2_) (by decide))); have m3_ := AM_ (Kd.R_kept hpn3 hkp (fun k_ h1_ h2_ => laws_markEngine_types2 (hpt3 k_ h1_) (hpt1 k_ h2_) (by decide))); have m4_ := AM_ (Kd.R_kept hpn4 hkp (fun k_ h1_ h2_ => laws_markEngine_types2 (hpt4 k_ h1_) (hpt1 k_ h2_) (by decide))); have m1_ := AM_ hy; have h1_ := AM_ (fun k_ h_ => HI1.out k_ (hpo1 k_ h_)); have h2_ := AM_ (fun k_ h_ => HI2.out k_ (hpo2 k_ h_)); have h3_ := AM_ (fun k_ h_ => HI3.out k_ (hpo3 k_ h_)); have h4_ := AM_ (fun k_ h_ => HI4.out k_ (hpo4 k_ h_)); have x_ : Aside0 (w11.heap[gb0]? = some _) := ⟨hkp.2 gb0 (by have := blk_lt HX.out; simpa using this) (fun h_ => by have hz_ := hpt1 gb0 h_; exact laws_markEngine_types ⟨_, HX.out⟩ hz_ (by decide)) |>.trans HX.out⟩; have hc2_ : w11.cell? ⟨gb0, 2, none⟩ = some (.slice Ao2 l0_2.length co2) := (blk_cell x_.out 2).trans rfl; have hc3_ : w11.cell? ⟨gb0, 3, none⟩ = some (.slice Ao3 l0_3.length co3) := (blk_cell x_.out 3).trans rfl; have hc4_ : w11.cell? ⟨gb0, 4, none⟩ = some (.slice Ao4 l0_4.length co4) := (blk_cell x_.out 4).trans rfl; clear HO1 HI1 HO2 HI2 HO3 HI3 HO4 HI4 HB HK HX; have HO1 := m1_; have HI1 := h1_; have HO2 := m2_; have HI2 := h2_; have HO3 := m3_; have HI3 := h3_; have HO4 := m4_; have HI4 := h4_; have HB := AM_ hb; have HK := n0_; clear n0_ hb hkp hy; have HX := x_; clear x_; clear hpn1 hpo1 hpt1; clear hpn2 hpo2 hpt2; clear hpn3 hpo3 hpt3; clear hpn4 hpo4 hpt4; clear m1_ h1_ m2_ h2_ m3_ h3_ m4_ h4_) | (go_at_call 112; obtain ⟨PN21, hpn1, hpo1, hpt1⟩ := laws_markEngine_nestS (show Kd.S (Kd.slice 76 k76) 90 w11 w0.heap.size PN11 (.slice Ao1 l0_1.length co1) z1 from HO1.out); obtain ⟨PN22, hpn2, hpo2, hpt2⟩ := laws_markEngine_nestS (show Kd.S k68 68 w11 w0.heap.size PN12 (.slice Ao2 l0_2.length co2) l0_2 from HO2.out); obtain ⟨PN23, hpn3, hpo3, hpt3⟩ := laws_markEngine_nestR (show Kd.R k150 150 w11 w0.heap.size PN13 (.slice Ao3 l0_3.length co3) l0_3 from HO3.out); obtain ⟨PN24, hpn4, hpo4, hpt4⟩ := laws_markEngine_nestR (show Kd.R k36 36 w11 w0.heap.size PN14 (.slice Ao4 l0_4.length co4) l0_4 from HO4.out); (with_reducible refine (laws_markTransactionS.calls k PN22 (.slice Ao2 l0_2.length co2) l0_2 t1 t2 z2 w0 _ ?side1 hpn2 HA2.out).mono ?_); (case side1 => exact (BT HB.out)); rintro e w12 ⟨rfl, hy, hb, hkp⟩; have n0_ := AM_ (Kept.then_ (S := (fun k_ => P0_1_ k_ ∨ (P0_2_ k_ ∨ (P0_3_ k_ ∨ P0_4_ k_)))) (w := w) (by repeat (first | (with_reducible first | exact HK.out | apply Kept.alloc | apply Kept.drewN | apply Kept.drew) | exact HK.out)) hkp (fun k_ hk_ => .inl (.inr (.inl (HI2.out k_ (hpo2 k_ hk_)))))); have m1_ := AM_ (Kd.S_kept hpn1 hkp (fun k_ h1_ h2_ => laws_markEngine_types2 (hpt1 k_ h1_) (hpt2 k_ h2_) (by decide))); have m3_ := AM_ (Kd.R_kept hpn3 hkp (fun k_ h1_ h2_ => laws_markEngine_types2 (hpt3 k_ h1_) (hpt2 k_ h2_) (by decide))); have m4_ := AM_ (Kd.R_kept hpn4 hkp (fun k_ h1_ h2_ => laws_markEngine_types2 (hpt4 k_ h1_) (hpt2 k_ h2_) (by decide))); have m2_ := AM_ hy; have h1_ := AM_ (fun k_ h_ => HI1.out k_ (hpo1 k_ h_)); have h2_ := AM_ (fun k_ h_ => HI2.out k_ (hpo2 k_ h_)); have h3_ := AM_ (fun k_ h_ => HI3.out k_ (hpo3 k_ h_)); have h4_ := AM_ (fun k_ h_ => HI4.out k_ (hpo4 k_ h_)); have x_ : Aside0 (w12.heap[gb0]? = some _) := ⟨hkp.2 gb0 (by have := blk_lt HX.out; simpa using this) (fun h_ => by have hz_ := hpt2 gb0 h_; exact laws_markEngine_types ⟨_, HX.out⟩ hz_ (by decide)) |>.trans HX.out⟩; have hc3_ : w12.cell? ⟨gb0, 3, none⟩ = some (.slice Ao3 l0_3.length co3) := (blk_cell x_.out 3).trans rfl; have hc4_ : w12.cell? ⟨gb0, 4, none⟩ = some (.slice Ao4 l0_4.length co4) := (blk_cell x_.out 4).trans rfl; clear HO1 HI1 HO2 HI2 HO3 HI3 HO4 HI4 HB HK HX; have HO1 := m1_; have HI1 := h1_; have HO2 := m2_; have HI2 := h2_; have HO3 := m3_; have HI3 := h3_; have HO4 := m4_; have HI4 := h4_; have HB := AM_ hb; have HK := n0_; clear n0_ hb hkp hy; have HX := x_; clear x_; clear hpn1 hpo1 hpt1; clear hpn2 hpo2 hpt2; clear hpn3 hpo3 hpt3; clear hpn4 hpo4 hpt4; clear m1_ h1_ m2_ h2_ m3_ h3_ m4_ h4_) | (go_at_call 113; obtain ⟨PN31, hpn1, hpo1, hpt1⟩ := laws_markEngine_nestS (show Kd.S (Kd.slice 76 k76) 90 w12 w0.heap.size PN21 (.slice Ao1 l0_1.length co1) z1 from HO1.out); obtain ⟨PN32, hpn2, hpo2, hpt2⟩ := laws_markEngine_nestS (show Kd.S k68 68 w12 w0.heap.size PN22 (.slice Ao2 l0_2.length co2) z2 from HO2.out); obtain ⟨PN33, hpn3, hpo3, hpt3⟩ := laws_markEngine_nestR (show Kd.R k150 150 w12 w0.heap.size PN23 (.slice Ao3 l0_3.length co3) l0_3 from HO3.out); obtain ⟨PN34, hpn4, hpo4, hpt4⟩ := laws_markEngine_nestR (show Kd.R k36 36 w12 w0.heap.size PN24 (.slice Ao4 l0_4.length co4) l0_4 from HO4.out); (with_reducible refine (laws_markLockS.calls k PN33 (.slice Ao3 l0_3.length co3) l0_3 t2 t3 z3 w0 _ ?side1 hpn3 HA3.out).mono ?_); (case side1 => exact (BT HB.out)); rintro e w13 ⟨rfl, hy, hb, hkp⟩; have n0_ := AM_ (Kept.then_ (S := (fun k_ => P0_1_ k_ ∨ (P0_2_ k_ ∨ (P0_3_ k_ ∨ P0_4_ k_)))) (w := w) (by repeat (first | (with_reducible first | exact HK.out | apply Kept.alloc | apply Kept.drewN | apply Kept.drew) | exact HK.out)) hkp (fun k_ hk_ => .inl (.inr (.inr (.inl (HI3.out k_ (hpo3 k_ hk_))))))); have m1_ := AM_ (Kd.S_kept hpn1 hkp (fun k_ h1_ h2_ => laws_markEngine_types2 (hpt1 k_ h1_) (hpt3 k_ h2_) (by decide))); have m2_ := AM_ (Kd.S_kept hpn2 hkp (fun k_ h1_ h2_ => laws_markEngine_types2 (hpt2 k_ h1_) (hpt3 k_ h2_) (by decide))); have m4_ := AM_ (Kd.R_kept hpn4 hkp (fun k_ h1_ h2_ => laws_markEngine_types2 (hpt4 k_ h1_) (hpt3 k_ h2_) (by decide))); have m3_ := AM_ (Kd.R_reok rfl hy (fun k_ e_ => hpn3.1 k_ e_)); have h1_ := AM_ (fun k_ h_ => HI1.out k_ (hpo1 k_ h_)); have h2_ := AM_ (fun k_ h_ => HI2.out k_ (hpo2 k_ h_)); have h3_ := AM_ (fun k_ h_ => HI3.out k_ (hpo3 k_ h_)); have h4_ := AM_ (fun k_ h_ => HI4.out k_ (hpo4 k_ h_)); have x_ : Aside0 (w13.heap[gb0]? = some _) := ⟨hkp.2 gb0 (by have := blk_lt HX.out; simpa using this) (fun h_ => by have hz_ := hpt3 gb0 h_; exact laws_markEngine_types ⟨_, HX.out⟩ hz_ (by decide)) |>.trans HX.out⟩; have hc4_ : w13.cell? ⟨gb0, 4, none⟩ = some (.slice Ao4 l0_4.length co4) := (blk_cell x_.out 4).trans rfl; clear HO1 HI1 HO2 HI2 HO3 HI3 HO4 HI4 HB HK HX; have HO1 := m1_; have HI1 := h1_; have HO2 := m2_; have HI2 := h2_; have HO3 := m3_; have HI3 := h3_; have HO4 := m4_; have HI4 := h4_; have HB := AM_ hb; have HK := n0_; clear n0_ hb hkp hy; have HX := x_; clear x_; clear hpn1 hpo1 hpt1; clear hpn2 hpo2 hpt2; clear hpn3 hpo3 hpt3; clear hpn4 hpo4 hpt4; clear m1_ h1_ m2_ h2_ m3_ h3_ m4_ h4_) | (go_at_call 114; obtain ⟨PN41, hpn1, hpo1, hpt1⟩ := laws_markEngine_nestS (show Kd.S (Kd.slice 76 k76) 90 w13 w0.heap.size PN31 (.slice Ao1 l0_1.length co1) z1 from HO1.out); obtain ⟨PN42, hpn2, hpo2, hpt2⟩ := laws_markEngine_nestS (show Kd.S k68 68 w13 w0.heap.size PN32 (.slice Ao2 l0_2.length co2) z2 from HO2.out); obtain ⟨PN43, hpn3, hpo3, hpt3⟩ := laws_markEngine_nestR (show Kd.R k150 150 w13 w0.heap.size PN33 (.slice Ao3 l0_3.length co3) z3 from HO3.out); obtain ⟨PN44, hpn4, hpo4, hpt4⟩ := laws_markEngine_nestR (show Kd.R k36 36 w13 w0.heap.size PN34 (.slice Ao4 l0_4.length co4) l0_4 from HO4.out); (with_reducible refine (laws_markWaitS.calls k PN44 (.slice Ao4 l0_4.length co4) l0_4 t3 t4 z4 w0 _ ?side1 hpn4 HA4.out).mono ?_); (case side1 => exact (BT HB.out)); rintro e w14 ⟨rfl, hy, hb, hkp⟩; have n0_ := AM_ (Kept.then_ (S := (fun k_ => P0_1_ k_ ∨ (P0_2_ k_ ∨ (P0_3_ k_ ∨ P0_4_ k_)))) (w := w) (by repeat (first | (with_reducible first | exact HK.out | apply Kept.alloc | apply Kept.drewN | apply Kept.drew) | exact HK.out)) hkp (fun k_ hk_ => .inl (.inr (.inr (.inr (HI4.out k_ (hpo4 k_ hk_))))))); have m1_ := AM_ (Kd.S_kept hpn1 hkp (fun k_ h1_ h2_ => laws_markEngine_types2 (hpt1 k_ h1_) (hpt4 k_ h2_) (by decide))); have m2_ := AM_ (Kd.S_kept hpn2 hkp (fun k_ h1_ h2_ => laws_markEngine_types2 (hpt2 k_ h1_) (hpt4 k_ h2_) (by decide))); have m3_ := AM_ (Kd.R_kept hpn3 hkp (fun k_ h1_ h2_ => laws_markEngine_types2 (hpt3 k_ h1_) (hpt4 k_ h2_) (by decide))); have m4_ := AM_ (Kd.R_reok rfl hy (fun k_ e_ => hpn4.1 k_ e_)); have h1_ := AM_ (fun k_ h_ => HI1.out k_ (hpo1 k_ h_)); have h2_ := AM_ (fun k_ h_ => HI2.out k_ (hpo2 k_ h_)); have h3_ := AM_ (fun k_ h_ => HI3.out k_ (hpo3 k_ h_)); have h4_ := AM_ (fun k_ h_ => HI4.out k_ (hpo4 k_ h_)); clear HO1 HI1 HO2 HI2 HO3 HI3 HO4 HI4 HB HK; have HO1 := m1_; have HI1 := h1_; have HO2 := m2_; have HI2 := h2_; have HO3 := m3_; have HI3 := h3_; have HO4 := m4_; have HI4 := h4_; have HB := AM_ hb; have HK := n0_; clear n0_ hb hkp hy; clear hpn1 hpo1 hpt1; clear hpn2 hpo2 hpt2; clear hpn3 hpo3 hpt3; clear hpn4 hpo4 hpt4; clear m1_ h1_ m2_ h2_ m3_ h3_ m4_ h4_))
 go_ret
 exact ⟨by first | rfl | (simp; done), Kd.S_mono (ST HO1.out) (fun k_ h_ => HI1.out k_ h_), Kd.S_mono (ST HO2.out) (fun k_ h_ => HI2.out k_ h_), Kd.R_mono (RT HO3.out) (fun k_ h_ => HI3.out k_ h_), Kd.R_mono (RT HO4.out) (fun k_ h_ => HI4.out k_ h_), (BT HB.out), (by repeat (first | (with_reducible first | exact HK.out | apply Kept.alloc | apply Kept.drewN | apply Kept.drew) | exact HK.out))⟩

/-! ### laws_heldVersionS: function 65 -/
def laws_heldVersionS.l0 : Nat → List (S76) → Int → Int → Option (Int)
 | 0, _, _, _ => none
 | k + 1, x0, x1, x5 => if x5 < (x0.length : Int) then (if 0 ≤ x5 then (if ((rd_T76 x0 x5).f0) = x1 then (if ((rd_T76 x0 x5).f1) = (wrap64 (x1 + 1)) then (if ((rd_T76 x0 x5).f2) = (wrap64 ((wrap64 (x1 + 1)) + 1)) then (if ((rd_T76 x0 x5).f3) = (wrap64 ((wrap64 ((wrap64 (x1 + 1)) + 1)) + 1)) then (if ((rd_T76 x0 x5).f4) = (wrap64 ((wrap64 ((wrap64 ((wrap64 (x1 + 1)) + 1)) + 1)) + 1)) then (laws_heldVersionS.l0 k x0 (wrap64 ((wrap64 ((wrap64 ((wrap64 ((wrap64 (x1 + 1)) + 1)) + 1)) + 1)) + 1)) (wrap64 (x5 + 1))) else (some (-1))) else (some (-1))) else (some (-1))) else (some (-1))) else (some (-1))) else (none)) else (some x1)
def laws_heldVersionS.f (k : Nat) (l0 : List (S76)) (a1 : Int) : Option (Int) := laws_heldVersionS.l0 k l0 a1 0
theorem laws_heldVersionS.mono_l : ∀ k, (∀ y0 y1 y2, LeO (laws_heldVersionS.l0 k y0 y1 y2) (laws_heldVersionS.l0 (k + 1) y0 y1 y2))
 | 0 => fun _ _ _ r h => by simp [laws_heldVersionS.l0] at h
 | k + 1 => by
  have ih0 := laws_heldVersionS.mono_l k
  ·intro y0 y1 y2
   unfold laws_heldVersionS.l0
   repeat' first
   | (with_reducible exact ih0 _ _ _)
   | (with_reducible exact LeO.refl _)
   | (with_reducible exact LeO.none _)
   | (with_reducible refine LeO.ite ?_ ?_)
   | (with_reducible refine LeO.bind ?_ (fun _ => ?_))
   | exact ih0 _ _ _
   | exact LeO.none _
   | refine LeO.ite ?_ ?_
   | refine LeO.bind ?_ (fun _ => ?_)
theorem laws_heldVersionS.mono : ∀ a0 a1 k, LeO (laws_heldVersionS.f k a0 a1) (laws_heldVersionS.f (k + 1) a0 a1) := by
 intro a0 a1 k
 have ih0 := laws_heldVersionS.mono_l k
 unfold laws_heldVersionS.f
 repeat' first
   | (with_reducible exact ih0 _ _ _)
   | (with_reducible exact LeO.refl _)
   | (with_reducible exact LeO.none _)
   | (with_reducible refine LeO.ite ?_ ?_)
   | (with_reducible refine LeO.bind ?_ (fun _ => ?_))
   | exact ih0 _ _ _
   | exact LeO.none _
   | refine LeO.ite ?_ ?_
   | refine LeO.bind ?_ (fun _ => ?_)
set_option maxHeartbeats 8000000 in
set_option maxRecDepth 100000 in
theorem laws_heldVersionS.calls (k : Nat) (A0 : Option Addr) (c0 : Nat) (l0 : List (S76)) (a1 : Int) (r : Int) (w : World) (hr0 : Kd.C k76 w A0 l0.length l0) (hc0 : l0.length ≤ c0) (h : laws_heldVersionS.f k l0 a1 = some r) :
  Calls Try.prog 65 #[.slice A0 l0.length c0, .int .i64 a1] w fun e w' => e = .returned (.int .i64 r) ∧ Drawn0 w w' := by
 have HR0 := AM_ hr0
 have HC0 := AM_ hc0
 clear hr0 hc0
 have H : (laws_heldVersionS.l0 k l0 a1 0) = some r := h
 clear h
 have H' := AM_ H
 clear H
 go_enter Try.func65, Try.ntmps65
 go_wp2
 go_loopg [1, 5] k (fun kq v1 v5 w' => ∃ (x1_1 : Int) (x5_1 : Int), v1 = .int .i64 x1_1 ∧ v5 = .int .i64 x5_1 ∧ Aside0 (laws_heldVersionS.l0 kq l0 x1_1 x5_1 = some r) ∧ Aside0 (kq ≤ k) ∧ Drawn0 w w')
 case atStart => exact ⟨(a1), (0), (by first | rfl | (simp; done) | (simp [*]; done)), (by first | rfl | (simp; done) | (simp [*]; done)), H', ⟨Nat.le_refl _⟩, by repeat (first | exact Drawn0.refl _ | apply Drawn0.step)⟩
 case round =>
  clear H'
  try clear p2
  obtain ⟨x1_1, x5_1, rfl, rfl, HA, HK1, ⟨m1, rfl⟩⟩ := hrel
  cases gk with
  | zero => exact absurd HA.out (by simp [laws_heldVersionS.l0])
  | succ k1 =>
   have H := HA.out
   clear HA
   simp only [laws_heldVersionS.l0] at H
   by_cases c3 : x5_1 < (l0.length : Int)
   rotate_left
   ·rw [if_neg c3] at H
    have c3b0 : decide (x5_1 < (l0.length : Int)) = false := decide_eq_false c3
    clear c3
    obtain rfl := Option.some.inj H
    go_wp2
    go_ret
    exact ⟨by first | rfl | (simp; done) | (simp [*]; done), by repeat (first | exact Drawn0.refl _ | apply Drawn0.step)⟩
   rw [if_pos c3] at H
   have c3b0 : decide (x5_1 < (l0.length : Int)) = true := decide_eq_true c3
   clear c3
   by_cases c4 : 0 ≤ x5_1
   rotate_left
   ·rw [if_neg c4] at H
    exact absurd H (by simp)
   rw [if_pos c4] at H
   have c4b0 : decide (0 ≤ x5_1) = true := decide_eq_true c4
   clear c4
   by_cases c5 : ((rd_T76 l0 x5_1).f0) = x1_1
   rotate_left
   ·rw [if_neg c5] at H
    have c5b0 : (((rd_T76 l0 x5_1).f0) == x1_1) = false := beq_eq_false_iff_ne.mpr c5
    have c5b1 : (((rd_T76 l0 x5_1).f0) != x1_1) = true := bne_iff_ne.mpr c5
    obtain rfl := Option.some.inj H
    have p182 : 0 ≤ (x5_1 : Int) := DT
    have q182 : x5_1 < (l0.length : Int) := DT
    obtain ⟨ad182, e182, hx182_0, hx182_1, hx182_2, hx182_3, hx182_4⟩ := at_T76 HR0.out x5_1 p182 q182
    cases e182
    replace p182 := eq_true p182
    replace q182 := eq_true q182
    go_wp2
    go_ret
    exact ⟨by first | rfl | (simp; done) | (simp [*]; done), by repeat (first | exact Drawn0.refl _ | apply Drawn0.step)⟩
   rw [if_pos c5] at H
   have c5b0 : (((rd_T76 l0 x5_1).f0) == x1_1) = true := beq_iff_eq.mpr c5
   have c5b1 : (((rd_T76 l0 x5_1).f0) != x1_1) = false := bne_eq_false_iff_eq.mpr c5
   clear c5
   by_cases c6 : ((rd_T76 l0 x5_1).f1) = (wrap64 (x1_1 + 1))
   rotate_left
   ·rw [if_neg c6] at H
    have c6b0 : (((rd_T76 l0 x5_1).f1) == (wrap64 (x1_1 + 1))) = false := beq_eq_false_iff_ne.mpr c6
    have c6b1 : (((rd_T76 l0 x5_1).f1) != (wrap64 (x1_1 + 1))) = true := bne_iff_ne.mpr c6
    obtain rfl := Option.some.inj H
    have p182 : 0 ≤ (x5_1 : Int) := DT
    have q182 : x5_1 < (l0.length : Int) := DT
    obtain ⟨ad182, e182, hx182_0, hx182_1, hx182_2, hx182_3, hx182_4⟩ := at_T76 HR0.out x5_1 p182 q182
    cases e182
    replace p182 := eq_true p182
    replace q182 := eq_true q182
    have p183 : 0 ≤ (x5_1 : Int) := DT
    have q183 : x5_1 < (l0.length : Int) := DT
    obtain ⟨ad183, e183, hx183_0, hx183_1, hx183_2, hx183_3, hx183_4⟩ := at_T76 HR0.out x5_1 p183 q183
    obtain rfl : ad182 = ad183 := (by injection e183)
    replace p183 := eq_true p183
    replace q183 := eq_true q183
    go_wp2
    go_ret
    exact ⟨by first | rfl | (simp; done) | (simp [*]; done), by repeat (first | exact Drawn0.refl _ | apply Drawn0.step)⟩
   rw [if_pos c6] at H
   have c6b0 : (((rd_T76 l0 x5_1).f1) == (wrap64 (x1_1 + 1))) = true := beq_iff_eq.mpr c6
   have c6b1 : (((rd_T76 l0 x5_1).f1) != (wrap64 (x1_1 + 1))) = false := bne_eq_false_iff_eq.mpr c6
   clear c6
   by_cases c7 : ((rd_T76 l0 x5_1).f2) = (wrap64 ((wrap64 (x1_1 + 1)) + 1))
   rotate_left
   ·rw [if_neg c7] at H
    have c7b0 : (((rd_T76 l0 x5_1).f2) == (wrap64 ((wrap64 (x1_1 + 1)) + 1))) = false := beq_eq_false_iff_ne.mpr c7
    have c7b1 : (((rd_T76 l0 x5_1).f2) != (wrap64 ((wrap64 (x1_1 + 1)) + 1))) = true := bne_iff_ne.mpr c7
    obtain rfl := Option.some.inj H
    have p182 : 0 ≤ (x5_1 : Int) := DT
    have q182 : x5_1 < (l0.length : Int) := DT
    obtain ⟨ad182, e182, hx182_0, hx182_1, hx182_2, hx182_3, hx182_4⟩ := at_T76 HR0.out x5_1 p182 q182
    cases e182
    replace p182 := eq_true p182
    replace q182 := eq_true q182
    have p183 : 0 ≤ (x5_1 : Int) := DT
    have q183 : x5_1 < (l0.length : Int) := DT
    obtain ⟨ad183, e183, hx183_0, hx183_1, hx183_2, hx183_3, hx183_4⟩ := at_T76 HR0.out x5_1 p183 q183
    obtain rfl : ad182 = ad183 := (by injection e183)
    replace p183 := eq_true p183
    replace q183 := eq_true q183
    have p184 : 0 ≤ (x5_1 : Int) := DT
    have q184 : x5_1 < (l0.length : Int) := DT
    obtain ⟨ad184, e184, hx184_0, hx184_1, hx184_2, hx184_3, hx184_4⟩ := at_T76 HR0.out x5_1 p184 q184
    obtain rfl : ad182 = ad184 := (by injection e184)
    replace p184 := eq_true p184
    replace q184 := eq_true q184
    go_wp2
    go_ret
    exact ⟨by first | rfl | (simp; done) | (simp [*]; done), by repeat (first | exact Drawn0.refl _ | apply Drawn0.step)⟩
   rw [if_pos c7] at H
   have c7b0 : (((rd_T76 l0 x5_1).f2) == (wrap64 ((wrap64 (x1_1 + 1)) + 1))) = true := beq_iff_eq.mpr c7
   have c7b1 : (((rd_T76 l0 x5_1).f2) != (wrap64 ((wrap64 (x1_1 + 1)) + 1))) = false := bne_eq_false_iff_eq.mpr c7
   clear c7
   by_cases c8 : ((rd_T76 l0 x5_1).f3) = (wrap64 ((wrap64 ((wrap64 (x1_1 + 1)) + 1)) + 1))
   rotate_left
   ·rw [if_neg c8] at H
    have c8b0 : (((rd_T76 l0 x5_1).f3) == (wrap64 ((wrap64 ((wrap64 (x1_1 + 1)) + 1)) + 1))) = false := beq_eq_false_iff_ne.mpr c8
    have c8b1 : (((rd_T76 l0 x5_1).f3) != (wrap64 ((wrap64 ((wrap64 (x1_1 + 1)) + 1)) + 1))) = true := bne_iff_ne.mpr c8
    obtain rfl := Option.some.inj H
    have p182 : 0 ≤ (x5_1 : Int) := DT
    have q182 : x5_1 < (l0.length : Int) := DT
    obtain ⟨ad182, e182, hx182_0, hx182_1, hx182_2, hx182_3, hx182_4⟩ := at_T76 HR0.out x5_1 p182 q182
    cases e182
    replace p182 := eq_true p182
    replace q182 := eq_true q182
    have p183 : 0 ≤ (x5_1 : Int) := DT
    have q183 : x5_1 < (l0.length : Int) := DT
    obtain ⟨ad183, e183, hx183_0, hx183_1, hx183_2, hx183_3, hx183_4⟩ := at_T76 HR0.out x5_1 p183 q183
    obtain rfl : ad182 = ad183 := (by injection e183)
    replace p183 := eq_true p183
    replace q183 := eq_true q183
    have p184 : 0 ≤ (x5_1 : Int) := DT
    have q184 : x5_1 < (l0.length : Int) := DT
    obtain ⟨ad184, e184, hx184_0, hx184_1, hx184_2, hx184_3, hx184_4⟩ := at_T76 HR0.out x5_1 p184 q184
    obtain rfl : ad182 = ad184 := (by injection e184)
    replace p184 := eq_true p184
    replace q184 := eq_true q184
    have p185 : 0 ≤ (x5_1 : Int) := DT
    have q185 : x5_1 < (l0.length : Int) := DT
    obtain ⟨ad185, e185, hx185_0, hx185_1, hx185_2, hx185_3, hx185_4⟩ := at_T76 HR0.out x5_1 p185 q185
    obtain rfl : ad182 = ad185 := (by injection e185)
    replace p185 := eq_true p185
    replace q185 := eq_true q185
    go_wp2
    go_ret
    exact ⟨by first | rfl | (simp; done) | (simp [*]; done), by repeat (first | exact Drawn0.refl _ | apply Drawn0.step)⟩
   rw [if_pos c8] at H
   have c8b0 : (((rd_T76 l0 x5_1).f3) == (wrap64 ((wrap64 ((wrap64 (x1_1 + 1)) + 1)) + 1))) = true := beq_iff_eq.mpr c8
   have c8b1 : (((rd_T76 l0 x5_1).f3) != (wrap64 ((wrap64 ((wrap64 (x1_1 + 1)) + 1)) + 1))) = false := bne_eq_false_iff_eq.mpr c8
   clear c8
   by_cases c9 : ((rd_T76 l0 x5_1).f4) = (wrap64 ((wrap64 ((wrap64 ((wrap64 (x1_1 + 1)) + 1)) + 1)) + 1))
   rotate_left
   ·rw [if_neg c9] at H
    have c9b0 : (((rd_T76 l0 x5_1).f4) == (wrap64 ((wrap64 ((wrap64 ((wrap64 (x1_1 + 1)) + 1)) + 1)) + 1))) = false := beq_eq_false_iff_ne.mpr c9
    have c9b1 : (((rd_T76 l0 x5_1).f4) != (wrap64 ((wrap64 ((wrap64 ((wrap64 (x1_1 + 1)) + 1)) + 1)) + 1))) = true := bne_iff_ne.mpr c9
    obtain rfl := Option.some.inj H
    have p182 : 0 ≤ (x5_1 : Int) := DT
    have q182 : x5_1 < (l0.length : Int) := DT
    obtain ⟨ad182, e182, hx182_0, hx182_1, hx182_2, hx182_3, hx182_4⟩ := at_T76 HR0.out x5_1 p182 q182
    cases e182
    replace p182 := eq_true p182
    replace q182 := eq_true q182
    have p183 : 0 ≤ (x5_1 : Int) := DT
    have q183 : x5_1 < (l0.length : Int) := DT
    obtain ⟨ad183, e183, hx183_0, hx183_1, hx183_2, hx183_3, hx183_4⟩ := at_T76 HR0.out x5_1 p183 q183
    obtain rfl : ad182 = ad183 := (by injection e183)
    replace p183 := eq_true p183
    replace q183 := eq_true q183
    have p184 : 0 ≤ (x5_1 : Int) := DT
    have q184 : x5_1 < (l0.length : Int) := DT
    obtain ⟨ad184, e184, hx184_0, hx184_1, hx184_2, hx184_3, hx184_4⟩ := at_T76 HR0.out x5_1 p184 q184
    obtain rfl : ad182 = ad184 := (by injection e184)
    replace p184 := eq_true p184
    replace q184 := eq_true q184
    have p185 : 0 ≤ (x5_1 : Int) := DT
    have q185 : x5_1 < (l0.length : Int) := DT
    obtain ⟨ad185, e185, hx185_0, hx185_1, hx185_2, hx185_3, hx185_4⟩ := at_T76 HR0.out x5_1 p185 q185
    obtain rfl : ad182 = ad185 := (by injection e185)
    replace p185 := eq_true p185
    replace q185 := eq_true q185
    have p186 : 0 ≤ (x5_1 : Int) := DT
    have q186 : x5_1 < (l0.length : Int) := DT
    obtain ⟨ad186, e186, hx186_0, hx186_1, hx186_2, hx186_3, hx186_4⟩ := at_T76 HR0.out x5_1 p186 q186
    obtain rfl : ad182 = ad186 := (by injection e186)
    replace p186 := eq_true p186
    replace q186 := eq_true q186
    go_wp2
    go_ret
    exact ⟨by first | rfl | (simp; done) | (simp [*]; done), by repeat (first | exact Drawn0.refl _ | apply Drawn0.step)⟩
   rw [if_pos c9] at H
   have c9b0 : (((rd_T76 l0 x5_1).f4) == (wrap64 ((wrap64 ((wrap64 ((wrap64 (x1_1 + 1)) + 1)) + 1)) + 1))) = true := beq_iff_eq.mpr c9
   have c9b1 : (((rd_T76 l0 x5_1).f4) != (wrap64 ((wrap64 ((wrap64 ((wrap64 (x1_1 + 1)) + 1)) + 1)) + 1))) = false := bne_eq_false_iff_eq.mpr c9
   clear c9
   have H' := AM_ H
   clear H
   have p182 : 0 ≤ (x5_1 : Int) := DT
   have q182 : x5_1 < (l0.length : Int) := DT
   obtain ⟨ad182, e182, hx182_0, hx182_1, hx182_2, hx182_3, hx182_4⟩ := at_T76 HR0.out x5_1 p182 q182
   cases e182
   replace p182 := eq_true p182
   replace q182 := eq_true q182
   have p183 : 0 ≤ (x5_1 : Int) := DT
   have q183 : x5_1 < (l0.length : Int) := DT
   obtain ⟨ad183, e183, hx183_0, hx183_1, hx183_2, hx183_3, hx183_4⟩ := at_T76 HR0.out x5_1 p183 q183
   obtain rfl : ad182 = ad183 := (by injection e183)
   replace p183 := eq_true p183
   replace q183 := eq_true q183
   have p184 : 0 ≤ (x5_1 : Int) := DT
   have q184 : x5_1 < (l0.length : Int) := DT
   obtain ⟨ad184, e184, hx184_0, hx184_1, hx184_2, hx184_3, hx184_4⟩ := at_T76 HR0.out x5_1 p184 q184
   obtain rfl : ad182 = ad184 := (by injection e184)
   replace p184 := eq_true p184
   replace q184 := eq_true q184
   have p185 : 0 ≤ (x5_1 : Int) := DT
   have q185 : x5_1 < (l0.length : Int) := DT
   obtain ⟨ad185, e185, hx185_0, hx185_1, hx185_2, hx185_3, hx185_4⟩ := at_T76 HR0.out x5_1 p185 q185
   obtain rfl : ad182 = ad185 := (by injection e185)
   replace p185 := eq_true p185
   replace q185 := eq_true q185
   have p186 : 0 ≤ (x5_1 : Int) := DT
   have q186 : x5_1 < (l0.length : Int) := DT
   obtain ⟨ad186, e186, hx186_0, hx186_1, hx186_2, hx186_3, hx186_4⟩ := at_T76 HR0.out x5_1 p186 q186
   obtain rfl : ad182 = ad186 := (by injection e186)
   replace p186 := eq_true p186
   replace q186 := eq_true q186
   go_wp2
   go_roundg k1
   case measure => have := HK1.out; omega
   case rel => exact ⟨(wrap64 ((wrap64 ((wrap64 ((wrap64 ((wrap64 (x1_1 + 1)) + 1)) + 1)) + 1)) + 1)), (wrap64 (x5_1 + 1)), (by first | rfl | (simp; done) | (simp [*]; done)), (by first | rfl | (simp; done) | (simp [*]; done)), H', ⟨by have := HK1.out; omega⟩, by repeat (first | exact Drawn0.refl _ | apply Drawn0.step)⟩

end Go.Proofs.Ytakpkmlbklahhaa.PFnExactNewEngine
