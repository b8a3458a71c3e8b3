-- Printed by wip/myprint.py.
import Derived.Test.YtdgknikgfjhohaaPFnSchemesx16
namespace Go.Proofs.Ytdgknikgfjhohaa.PFnSchemes
open Go.RowKit Go.Proofs.YtdgknikgfjhohaaW.PrintWords Go.Proofs.YtdgknikgfjhohaaW.PrintLast Go.Proofs.YtdgknikgfjhohaaW.PrintMore
set_option maxHeartbeats 8000000
set_option maxRecDepth 100000
set_option linter.unusedVariables false
set_option linter.unusedSimpArgs false

/-! ### impl_CodeName: function 16 -/
def impl_CodeName.f (a0 : Int) : Option (ByteArray) := (impl_in.f a0 0 6).bind fun ab => (if ab = true then ((some (([(⟨#[111, 107]⟩ : ByteArray), (⟨#[98, 108, 111, 99, 107, 101, 100]⟩ : ByteArray), (⟨#[99, 111, 110, 102, 108, 105, 99, 116]⟩ : ByteArray), (⟨#[108, 97, 116, 101]⟩ : ByteArray), (⟨#[100, 101, 97, 100, 108, 111, 99, 107]⟩ : ByteArray), (⟨#[101, 120, 99, 108, 117, 100, 101, 100]⟩ : ByteArray), (⟨#[105, 110, 118, 97, 108, 105, 100]⟩ : ByteArray)] : List ByteArray) : List ByteArray)).bind fun aa => (if 0 ≤ a0 then (if a0 < (aa.length : Int) then (some (rdOf ByteArray.empty aa a0)) else (none)) else (none))) else (some (⟨#[]⟩ : ByteArray)))
theorem impl_CodeName.calls (a0 : Int) (r : ByteArray) (w : World) (h : impl_CodeName.f a0 = some r) :
  Calls Try.prog 16 #[.int .i64 a0] w fun e w' => e = .returned (.string r) ∧ Below w.heap.size w w' := by
 have HB := AM_ (Below.refl w.heap.size w)
 unfold impl_CodeName.f at h
 have H := h
 clear h
 obtain ⟨af, A2, H⟩ := OB H
 go_enter Try.func16, Try.ntmps16
 go_upto_if 5 with (first | ((with_reducible refine G1 41 rfl ?_); refine GC (some 4) Try.func41 #[.int .i64 a0, .int .i64 0, .int .i64 6] ?_; (with_reducible refine MQ (impl_in.calls a0 0 6 af _ A2.out) ?_); intro nd))
 by_cases c3 : af = true
 rotate_left
 ·replace c3 := Bool.eq_false_iff.mpr c3
  subst c3
  replace H := HF H
  obtain rfl := SI H
  try go_wp2
  go_ret
  exact QT (BT HB.out)
 subst c3
 replace H := HT H
 obtain ⟨ai, aa, H⟩ := OY H
 have ab := AM_ aa
 clear aa
 replace H := HI H
 obtain ⟨c4, H⟩ := H
 have al := DE c4
 clear c4
 replace H := HI H
 obtain ⟨c5, H⟩ := H
 have am := DE c5
 clear c5
 obtain rfl := SI H
 go_wp2_with (first | ((with_reducible refine G2 6 rfl ?_); refine Kd.R_lit Kd.string _ 9 ?hg (N := 6) ?hd (xs := ([(⟨#[111, 107]⟩ : ByteArray), (⟨#[98, 108, 111, 99, 107, 101, 100]⟩ : ByteArray), (⟨#[99, 111, 110, 102, 108, 105, 99, 116]⟩ : ByteArray), (⟨#[108, 97, 116, 101]⟩ : ByteArray), (⟨#[100, 101, 97, 100, 108, 111, 99, 107]⟩ : ByteArray), (⟨#[101, 120, 99, 108, 117, 100, 101, 100]⟩ : ByteArray), (⟨#[105, 110, 118, 97, 108, 105, 100]⟩ : ByteArray)] : List ByteArray)) (inner := [.string (⟨#[111, 107]⟩ : ByteArray), .string (⟨#[98, 108, 111, 99, 107, 101, 100]⟩ : ByteArray), .string (⟨#[99, 111, 110, 102, 108, 105, 99, 116]⟩ : ByteArray), .string (⟨#[108, 97, 116, 101]⟩ : ByteArray), .string (⟨#[100, 101, 97, 100, 108, 111, 99, 107]⟩ : ByteArray), .string (⟨#[101, 120, 99, 108, 117, 100, 101, 100]⟩ : ByteArray), .string (⟨#[105, 110, 118, 97, 108, 105, 100]⟩ : ByteArray)]) (ok := fun _ => True) (okp := fun _ => True) ?hr ?hp (fun _ hk => hk) trivial (Below.refl _ _) (Nat.le_refl _) (by simp) ?_; (case hd => rfl); (case hg => rfl); (case hr => first | (go_simp; done) | (go_simp; rfl)); (case hp => exact (Reps.one (show Kd.M Kd.string _ _ _ (⟨#[111, 107]⟩ : ByteArray) [.string (⟨#[111, 107]⟩ : ByteArray)] from rfl) (Reps.one (show Kd.M Kd.string _ _ _ (⟨#[98, 108, 111, 99, 107, 101, 100]⟩ : ByteArray) [.string (⟨#[98, 108, 111, 99, 107, 101, 100]⟩ : ByteArray)] from rfl) (Reps.one (show Kd.M Kd.string _ _ _ (⟨#[99, 111, 110, 102, 108, 105, 99, 116]⟩ : ByteArray) [.string (⟨#[99, 111, 110, 102, 108, 105, 99, 116]⟩ : ByteArray)] from rfl) (Reps.one (show Kd.M Kd.string _ _ _ (⟨#[108, 97, 116, 101]⟩ : ByteArray) [.string (⟨#[108, 97, 116, 101]⟩ : ByteArray)] from rfl) (Reps.one (show Kd.M Kd.string _ _ _ (⟨#[100, 101, 97, 100, 108, 111, 99, 107]⟩ : ByteArray) [.string (⟨#[100, 101, 97, 100, 108, 111, 99, 107]⟩ : ByteArray)] from rfl) (Reps.one (show Kd.M Kd.string _ _ _ (⟨#[101, 120, 99, 108, 117, 100, 101, 100]⟩ : ByteArray) [.string (⟨#[101, 120, 99, 108, 117, 100, 101, 100]⟩ : ByteArray)] from rfl) (Reps.one (show Kd.M Kd.string _ _ _ (⟨#[105, 110, 118, 97, 108, 105, 100]⟩ : ByteArray) [.string (⟨#[105, 110, 118, 97, 108, 105, 100]⟩ : ByteArray)] from rfl) (Reps.none _ _))))))))); intro an w6 ag hb hg_ hnew_; clear hg_ hnew_; (first | rw [← ab.out] at ag | (simp only [Int.reduceToNat] at ag; rw [← ab.out] at ag)); have ac := AM_ (Kd.R_lower ag (below_size (BT HB.out))); replace HB := BW HB hb; clear hb ag; obtain ⟨ap, aq, ao⟩ := Kd.R_slice ac.out; subst ao; have ad : 0 ≤ (a0 : Int) := DT; have ae : a0 < (ai.length : Int) := DT; obtain ⟨ak, aj, ah⟩ := Kd.at_string (Kd.R_reads' ac.out).2.2 a0 ad ae; cases aj; replace ad := eq_true ad; replace ae := eq_true ae))
 go_ret
 exact QT (BT HB.out)

/-! ### spec_l10Locks: function 61 -/
def spec_l10Locks.l0 : Nat → List (S76) → Int → List Int → Int → Int → Option ((List (S76)) × Int × Int)
 | 0, _, _, _, _, _ => none
 | k + 1, x3, x4, aa, ab, ac => if x4 < 6 then ((spec_l1Once.f aa ab ac 3).bind fun bt725 => (if bt725.1 = true then ((spec_l1Below.f aa bt725.2.1 bt725.2.2 4).bind fun bt728 => (if x3.length < 8796093022208 then (spec_l10Locks.l0 k (x3 ++ [(⟨x4, wrap64 (1 + bt728.1)⟩ : S76)]) (wrap64 (x4 + 1)) aa bt728.2.1 bt728.2.2) else (none))) else (spec_l10Locks.l0 k x3 (wrap64 (x4 + 1)) aa bt725.2.1 bt725.2.2))) else ((spec_l1Once.f aa ab ac 14).bind fun bt734 => (if bt734.1 = true then ((spec_l1Below.f aa bt734.2.1 bt734.2.2 7).bind fun bt737 => ((spec_l1PickInt.f aa bt737.2.1 bt737.2.2 (([0, 9, 10] : List Int))).bind fun bt743 => (if x3.length < 8796093022208 then (some ((x3 ++ [(⟨bt737.1, bt743.1⟩ : S76)]), bt743.2.1, bt743.2.2)) else (none)))) else (some (x3, bt734.2.1, bt734.2.2))))
def spec_l10Locks.f (k : Nat) (s0_0 : List Int) (s0_1 : Int) (s0_2 : Int) : Option ((List (S76)) × Int × Int) := spec_l10Locks.l0 k (([] : List (S76))) 0 s0_0 s0_1 s0_2
theorem spec_l10Locks.mono_l : ∀ k, (∀ y0 y1 y2 y3 y4, LeO (spec_l10Locks.l0 k y0 y1 y2 y3 y4) (spec_l10Locks.l0 (k + 1) y0 y1 y2 y3 y4))
 | 0 => fun _ _ _ _ _ r h => by simp [spec_l10Locks.l0] at h
 | k + 1 => by
  have aa := spec_l10Locks.mono_l k
  all_goals intros; unfold spec_l10Locks.l0
  all_goals repeat' (with_reducible first | exact aa .. | exact LeO.refl _ | exact LeO.none _ | refine LeO.ite ?_ ?_ | refine LeO.bind ?_ (fun _ => ?_))
theorem spec_l10Locks.mono : ∀ a0 a1 a2 k, LeO (spec_l10Locks.f k a0 a1 a2) (spec_l10Locks.f (k + 1) a0 a1 a2) := by
 intro a0 a1 a2 k
 have aa := spec_l10Locks.mono_l k
 unfold spec_l10Locks.f
 repeat' (with_reducible first | exact aa .. | exact LeO.refl _ | exact LeO.none _ | refine LeO.ite ?_ ?_ | refine LeO.bind ?_ (fun _ => ?_))
theorem spec_l10Locks.calls (k : Nat) (g : Nat) (s0_0 : List Int) (s0_1 : Int) (s0_2 : Int) (r1 : List (S76)) (r2 : Int) (r3 : Int) (w0 w : World) (hI : IsS164 w0 w g s0_0 s0_1 s0_2) (hB : Below w0.heap.size w0 w) (h : spec_l10Locks.f k s0_0 s0_1 s0_2 = some (r1, r2, r3)) :
  Calls Try.prog 61 #[.pointer (some ⟨g, 0, none⟩)] w fun e w' => ∃ a5 : Value, e = .returned (a5) ∧ Kd.R k76 76 w' w.heap.size (fun _ => True) a5 r1 ∧ IsS164 w0 w' g s0_0 r2 r3 ∧ Below w0.heap.size w0 w' ∧ KeepBut w w' g none := by
 have a8 := Try.underlying76
 have aa := AM_ hI
 have HK := AM_ (KeepBut.refl w g none)
 have HL := AM_ hB.size
 clear hI
 have HW0 := AM_ hB.size
 have HB := AM_ hB
 clear hB
 have H : (spec_l10Locks.l0 k (([] : List (S76))) 0 s0_0 s0_1 s0_2) = some (r1, r2, r3) := h
 clear h
 obtain ⟨aU, ag⟩ : ∃ y_ : List (S76), y_ = (([] : List (S76))) := ⟨_, rfl⟩
 rw [← ag] at H
 have ao := AM_ ag
 clear ag
 have H' := AM_ H
 clear H
 go_enter Try.func61, Try.ntmps61
 go_wp2_with (first | ((with_reducible refine G2 5 rfl ?_); refine Kd.R_lit k76 _ 76 ?hg (N := 5) ?hd (xs := ([] : List (S76))) (inner := []) (ok := fun _ => True) (okp := fun _ => True) ?hr ?hp (fun _ hk => hk) trivial (Below.refl _ _) (Nat.le_refl _) (by simp) ?_; (case hd => rfl); (case hg => rfl); (case hr => first | (go_simp; done) | (go_simp; rfl)); (case hp => exact (Reps.none _ _)); intro a9 w2 au hb hg_ hnew_; clear hg_ hnew_; (first | rw [← ao.out] at au | (simp only [Int.reduceToNat] at au; rw [← ao.out] at au)); have av := AM_ (Kd.R_lower au (KS HK)); replace HK := KX HK hb; replace HB := BW1 HB aa hb; replace aa := IB aa hb; clear hb au))
 go_loopg [3, 4] k (fun kq v3 v4 w' => ∃ (af : List (S76)) (ae : Int) (ab : Int) (ac : Int), v4 = .int .i64 ae ∧ Aside0 (spec_l10Locks.l0 kq af ae s0_0 ab ac = some (r1, r2, r3)) ∧ Aside0 (kq ≤ k) ∧ Aside0 (Kd.R k76 76 w' w.heap.size (fun _ => True) v3 af) ∧ Aside0 (IsS164 w0 w' g s0_0 ab ac) ∧ Aside0 (KeepBut w w' g none) ∧ Aside0 (Below w0.heap.size w0 w'))
 case atStart => exact ⟨(aU), (0), (s0_1), (s0_2), (by first | rfl | (simp; done) | (simp [*]; done)), H', ⟨Nat.le_refl _⟩, ⟨RT av.out⟩, ⟨IZ aa⟩, ⟨KZ HK⟩, ⟨BZ1 HB aa⟩⟩
 case round =>
  clear H'
  obtain ⟨af, ae, ab, ac, rfl, HA, aR, HO_3, aa, HK, HB⟩ := hrel
  cases gk with
  | zero => exact absurd HA.out (by simp [spec_l10Locks.l0])
  | succ k1 =>
   have H := HA.out
   clear HA
   simp only [spec_l10Locks.l0] at H
   by_cases c4 : ae < 6
   ·rw [if_pos c4] at H
    have aV := DE c4
    clear c4
    obtain ⟨⟨aw, aq, ar⟩, A5, H⟩ := OB H
    go_upto_if 11 with (first | ((with_reducible refine G1 90 rfl ?_); refine GC (some 11) Try.func90 #[.pointer (some ⟨g, 0, none⟩), .int .i64 3] ?_; (with_reducible refine (spec_l1Once.calls g s0_0 ab ac 3 aw aq ar w0 _ ?side1 ?side2 A5.out).mono ?_); (case side1 => exact IZ aa); (case side2 => exact BZ1 HB aa); rintro e w9 ⟨rfl, hi, hb, hk⟩; refine ⟨_, rfl, ?_⟩; replace HO_3 := RK1 HO_3 aa hk; replace HK := KY HK hk; replace HB := AM_ (hb); replace aa := AM_ (hi); (try clear hb)))
    by_cases c6 : aw = true
    rotate_left
    ·replace c6 := Bool.eq_false_iff.mpr c6
     subst c6
     replace H := HF H
     have H' := AM_ H
     clear H
     try go_wp2
     go_roundg k1
     case measure => have := aR.out; omega
     case rel => exact ⟨(af), (wrap64 (ae + 1)), (aq), (ar), (by first | rfl | (simp; done) | (simp [*]; done)), H', ⟨by have := aR.out; omega⟩, ⟨RT HO_3.out⟩, ⟨IZ aa⟩, ⟨KZ HK⟩, ⟨BZ1 HB aa⟩⟩
    subst c6
    replace H := HT H
    obtain ⟨⟨ah, ax, ay⟩, A7, H⟩ := OB H
    replace H := HI H
    obtain ⟨c8, H⟩ := H
    have LMc8 := AM_ c8
    clear c8
    obtain ⟨aW, ai⟩ : ∃ y_ : List (S76), y_ = (af ++ [(⟨ae, wrap64 (1 + ah)⟩ : S76)]) := ⟨_, rfl⟩
    rw [← ai] at H
    have az := AM_ ai
    clear ai
    have H' := AM_ H
    clear H
    go_wp2_with (first | ((with_reducible refine G1 54 rfl ?_); refine GC (some 15) Try.func54 #[.pointer (some ⟨g, 0, none⟩), .int .i64 4] ?_; (with_reducible refine (spec_l1Below.calls g s0_0 aq ar 4 ah ax ay w0 _ ?side1 ?side2 A7.out).mono ?_); (case side1 => exact IZ aa); (case side2 => exact BZ1 HB aa); rintro e bi ⟨rfl, hi, hb, hk⟩; refine ⟨_, rfl, ?_⟩; replace HO_3 := RK1 HO_3 aa hk; replace HK := KY HK hk; replace HB := AM_ (hb); replace aa := AM_ (hi); (try clear hb)) | ((with_reducible refine gate_builtin (b := .append) (xs := #[.tmp 12, .tmp 18]) rfl ?_); at_builtin; refine Kd.R_append k76 w.heap.size rfl (.tmp 12) (.tmp 18) 36 76 (.agg #[(.int .i64 0), (.int .i64 0)]) 16 rfl Try.underlying36 info76 rfl (by decide) (by omega) u3 af (⟨ae, wrap64 (1 + ah)⟩ : S76) [.int .i64 ae, .int .i64 (wrap64 (1 + ah))] (fun _ => True) (fun _ => False) rfl rfl ?aP (fun _ hk => hk.elim) ?aF ?aO (Below.refl _ _) ?aS ?aL ?_; (case aP => exact k76_mkM _ _ _ (⟨ae, wrap64 (1 + ah)⟩ : S76)); (case aF => exact (fun _ _ => trivial)); (case aO => exact (RT HO_3.out)); (case aS => exact (KS HK)); (case aL => have := LMc8.out; omega); intro ba bj ho hb hg hat; rw [← az.out] at ho; have aA := AM_ (IsS164.grown (IZ aa) hg (IsS164.own_ne aa.out HO_3.out (by decide))); have aB := AM_ (below_weaken (BZ1 HB aa) HL.out hb); have aC := AM_ (KeepBut.trans (KZ HK) (KeepBut.of_grown hg g) (Kd.R_base2 HO_3.out)); have aD := AM_ (ho); clear aa; clear HB; clear HK; clear HO_3; have aa := aA; have HB := aB; have HK := aC; have aE := aD; clear aA aB aC aD; clear ho hb hg hat))
    go_roundg k1
    case measure => have := aR.out; omega
    case rel => exact ⟨(aW), (wrap64 (ae + 1)), (ax), (ay), (by first | rfl | (simp; done) | (simp [*]; done)), H', ⟨by have := aR.out; omega⟩, ⟨RT aE.out⟩, ⟨IZ aa⟩, ⟨KZ HK⟩, ⟨BZ1 HB aa⟩⟩
   rw [if_neg c4] at H
   have aV := decide_eq_false c4
   clear c4
   obtain ⟨⟨aG, aH, aI⟩, bb, H⟩ := OB H
   go_upto_if 21 with (first | ((with_reducible refine G1 90 rfl ?_); refine GC (some 21) Try.func90 #[.pointer (some ⟨g, 0, none⟩), .int .i64 14] ?_; (with_reducible refine (spec_l1Once.calls g s0_0 ab ac 14 aG aH aI w0 _ ?side1 ?side2 bb.out).mono ?_); (case side1 => exact IZ aa); (case side2 => exact BZ1 HB aa); rintro e bk ⟨rfl, hi, hb, hk⟩; refine ⟨_, rfl, ?_⟩; replace HO_3 := RK1 HO_3 aa hk; replace HK := KY HK hk; replace HB := AM_ (hb); replace aa := AM_ (hi); (try clear hb)))
   by_cases aT : aG = true
   rotate_left
   ·replace aT := Bool.eq_false_iff.mpr aT
    subst aT
    replace H := HF H
    simp only [Option.some.injEq, Prod.mk.injEq] at H
    obtain ⟨rfl, rfl, rfl⟩ := H
    try go_wp2
    go_ret
    exact ⟨_, ER, RT HO_3.out, IZ aa, BZ1 HB aa, KZ HK⟩
   subst aT
   replace H := HT H
   obtain ⟨⟨aj, aJ, aK⟩, bd, H⟩ := OB H
   obtain ⟨aM, ak⟩ : ∃ y_ : List Int, y_ = (([0, 9, 10] : List Int)) := ⟨_, rfl⟩
   rw [← ak] at H
   have ap := AM_ ak
   clear ak
   obtain ⟨⟨al, aX, aY⟩, be, H⟩ := OB H
   replace H := HI H
   obtain ⟨a6, H⟩ := H
   have LMc17 := AM_ a6
   clear a6
   obtain ⟨bf, am⟩ : ∃ y_ : List (S76), y_ = (af ++ [(⟨aj, al⟩ : S76)]) := ⟨_, rfl⟩
   rw [← am] at H
   have aN := AM_ am
   clear am
   simp only [Option.some.injEq, Prod.mk.injEq] at H
   obtain ⟨rfl, rfl, rfl⟩ := H
   go_wp2_with (first | ((with_reducible refine G1 54 rfl ?_); refine GC (some 24) Try.func54 #[.pointer (some ⟨g, 0, none⟩), .int .i64 7] ?_; (with_reducible refine (spec_l1Below.calls g s0_0 aH aI 7 aj aJ aK w0 _ ?side1 ?side2 bd.out).mono ?_); (case side1 => exact IZ aa); (case side2 => exact BZ1 HB aa); rintro e bm ⟨rfl, hi, hb, hk⟩; refine ⟨_, rfl, ?_⟩; replace HO_3 := RK1 HO_3 aa hk; replace HK := KY HK hk; replace HB := AM_ (hb); replace aa := AM_ (hi); (try clear hb)) | ((with_reducible refine G2 26 rfl ?_); refine Kd.R_lit (Kd.int .i64) _ 3 ?hg (N := 26) ?hd (xs := ([0, 9, 10] : List Int)) (inner := [.int .i64 0, .int .i64 9, .int .i64 10]) (ok := fun _ => True) (okp := fun _ => True) ?hr ?hp (fun _ hk => hk) trivial (Below.refl _ _) (Nat.le_refl _) (by simp) ?_; (case hd => rfl); (case hg => rfl); (case hr => first | (go_simp; done) | (go_simp; rfl)); (case hp => exact (Reps.one (show Kd.M (Kd.int .i64) _ _ _ 0 [.int .i64 0] from rfl) (Reps.one (show Kd.M (Kd.int .i64) _ _ _ 9 [.int .i64 9] from rfl) (Reps.one (show Kd.M (Kd.int .i64) _ _ _ 10 [.int .i64 10] from rfl) (Reps.none _ _))))); intro bg bn an hb hg_ hnew_; clear hg_ hnew_; (first | rw [← ap.out] at an | (simp only [Int.reduceToNat] at an; rw [← ap.out] at an)); replace HO_3 := RB HO_3 hb; have ad := AM_ (Kd.R_lower an (KS HK)); replace HK := KX HK hb; replace HB := BW1 HB aa hb; replace aa := IB aa hb; clear hb an; obtain ⟨aZ, a3, a4⟩ := Kd.R_slice ad.out; subst a4) | ((with_reducible refine G1 98 rfl ?_); refine GC (some 27) Try.func98 #[.pointer (some ⟨g, 0, none⟩), .slice aZ aM.length a3] ?_; (with_reducible refine (spec_l1PickInt.calls g s0_0 aJ aK _ _ aM al aX aY w0 _ ?side1 ?side2 (CRR ad) (Kd.R_reads' ad.out).2.1 ?side5 be.out).mono ?_); (case side1 => exact IZ aa); (case side2 => exact BZ1 HB aa); (case side5 => exact far_slice (IsS164.own_ne aa.out ad.out (by decide))); rintro e bo ⟨rfl, hi, hb, hk⟩; refine ⟨_, rfl, ?_⟩; replace HO_3 := RK1 HO_3 aa hk; replace ad := RK1 ad aa hk; replace HK := KY HK hk; replace HB := AM_ (hb); replace aa := AM_ (hi); (try clear hb)) | ((with_reducible refine gate_builtin (b := .append) (xs := #[.tmp 22, .tmp 29]) rfl ?_); at_builtin; refine Kd.R_append k76 w.heap.size rfl (.tmp 22) (.tmp 29) 36 76 (.agg #[(.int .i64 0), (.int .i64 0)]) 16 rfl Try.underlying36 info76 rfl (by decide) (by omega) u3 af (⟨aj, al⟩ : S76) [.int .i64 aj, .int .i64 al] (fun _ => True) (fun _ => False) rfl rfl ?aP (fun _ hk => hk.elim) ?aF ?aO (Below.refl _ _) ?aS ?aL ?_; (case aP => exact k76_mkM _ _ _ (⟨aj, al⟩ : S76)); (case aF => exact (fun _ _ => trivial)); (case aO => exact (RT HO_3.out)); (case aS => exact (KS HK)); (case aL => have := LMc17.out; omega); intro bh bp ho hb hg hat; rw [← aN.out] at ho; have aA := AM_ (IsS164.grown (IZ aa) hg (IsS164.own_ne aa.out HO_3.out (by decide))); have aB := AM_ (Kd.R_over' (RT ad.out) (Kd.R_typed (RT HO_3.out)) (by decide) hg); have aC := AM_ (below_weaken (BZ1 HB aa) HL.out hb); have aD := AM_ (KeepBut.trans (KZ HK) (KeepBut.of_grown hg g) (Kd.R_base2 HO_3.out)); have a7 := AM_ (ho); clear aa; clear ad; clear HB; clear HK; clear HO_3; have aa := aA; have ad := aB; have HB := aC; have HK := aD; have aQ := a7; clear aA aB aC aD a7; clear ho hb hg hat))
   go_ret
   exact ⟨_, ER, RT aQ.out, IZ aa, BZ1 HB aa, KZ HK⟩

/-! ### spec_DrawWriteCode: function 17 -/
def spec_DrawWriteCode.f (k : Nat) (l0 : List Int) : Option ((List (List (S52))) × (List (S76)) × Int × Int × Int × Int × Int × Int × Int × (List (S116)) × (List (S103)) × Int) := (spec_l1New.f k l0).bind fun bt751 => ((spec_l6Pair.f k bt751.1 bt751.2.1 bt751.2.2).bind fun bt755 => ((spec_l10Locks.f k bt751.1 bt755.2.2.2.2.2.2.2.2.2.2.2.1 bt755.2.2.2.2.2.2.2.2.2.2.2.2).bind fun bt776 => ((spec_l1Below.f bt751.1 bt776.2.1 bt776.2.2 8).bind fun bt781 => (some (bt755.2.1, bt776.1, bt755.2.2.1, bt755.2.2.2.1, bt755.2.2.2.2.1, bt755.2.2.2.2.2.1, bt755.2.2.2.2.2.2.1, bt755.2.2.2.2.2.2.2.1, bt755.2.2.2.2.2.2.2.2.1, bt755.2.2.2.2.2.2.2.2.2.1, bt755.2.2.2.2.2.2.2.2.2.2.1, wrap64 (bt781.1 - 1))))))
theorem spec_DrawWriteCode.mono : ∀ a0 k, LeO (spec_DrawWriteCode.f k a0) (spec_DrawWriteCode.f (k + 1) a0) := by
 intro a0 k
 unfold spec_DrawWriteCode.f
 repeat' (with_reducible first | exact spec_l10Locks.mono .. | exact spec_l1New.mono .. | exact spec_l6Pair.mono .. | exact LeO.refl _ | exact LeO.none _ | refine LeO.ite ?_ ?_ | refine LeO.bind ?_ (fun _ => ?_))
def spec_DrawWriteCode.T2 : Bool × List (List Nat × List Nat) := (true, [([], []), ([], []), ([1], [1]), ([], []), ([], []), ([4, 2], [4]), ([5], [5]), ([0, 5, 0], [0]), ([2, 7, 0, 1, 2, 7], [2]), ([3, 8, 0, 1, 2, 3, 7, 8], [3]), ([6, 9, 0, 1, 2, 3, 4, 5, 6, 7, 8, 9], [6])])
def spec_DrawWriteCode.B2 : List Nat := [0, 0, 2, 0, 0, 22, 54, 55, 183, 447, 1023]
theorem spec_DrawWriteCode.tab2 : rtab .any (opsOf Try.f17 2) = spec_DrawWriteCode.T2 := by kernel_rfl
theorem spec_DrawWriteCode.bits2 : waitsOk spec_DrawWriteCode.T2.2 spec_DrawWriteCode.B2 = true := by kernel_rfl
theorem spec_DrawWriteCode.calls (k : Nat) (A0 : Option Addr) (c0 : Nat) (l0 : List Int) (r1 : List (List (S52))) (r2 : List (S76)) (r3 : Int) (r4 : Int) (r5 : Int) (r6 : Int) (r7 : Int) (r8 : Int) (r9 : Int) (r10 : List (S116)) (r11 : List (S103)) (r12 : Int) (w : World) (bX : Kd.C (Kd.int .u8) w A0 l0.length l0) (bY : l0.length ≤ c0) (h : spec_DrawWriteCode.f k l0 = some (r1, r2, r3, r4, r5, r6, r7, r8, r9, r10, r11, r12)) :
  Calls Try.prog 17 #[.slice A0 l0.length c0] w fun e w' => ∃ bZ bI bJ bb : Value, e = .returned (.tuple #[.agg #[bZ], bI, .agg #[.int .i64 r3, .int .i64 r4, .int .i64 r5, .int .i64 r6, .int .i64 r7, .int .i64 r8, .int .i64 r9, bJ, bb], .int .i64 r12]) ∧ Kd.V (Kd.slice 52 k52) 62 w' w.heap.size (fun k_ => (w.heap.size ≤ k_) ∧ some k_ ≠ (bI : Value).ownBlock ∧ some k_ ≠ (bJ : Value).ownBlock ∧ some k_ ≠ (bb : Value).ownBlock) bZ r1 ∧ Kd.R k76 76 w' w.heap.size (fun k_ => (w.heap.size ≤ k_)) bI r2 ∧ Kd.R k116 116 w' w.heap.size (fun k_ => (w.heap.size ≤ k_)) bJ r10 ∧ Kd.R k103 103 w' w.heap.size (fun k_ => (w.heap.size ≤ k_)) bb r11 ∧ Below w.heap.size w w' := by
 have cx := Try.underlying34
 have cy := Try.underlying48
 have cz := AM_ bX
 have cA := AM_ bY
 clear bX bY
 have HB := AM_ (Below.refl w.heap.size w)
 have H : ((spec_l1New.f k l0).bind fun bt751 => ((spec_l6Pair.f k bt751.1 bt751.2.1 bt751.2.2).bind fun bt755 => ((spec_l10Locks.f k bt751.1 bt755.2.2.2.2.2.2.2.2.2.2.2.1 bt755.2.2.2.2.2.2.2.2.2.2.2.2).bind fun bt776 => ((spec_l1Below.f bt751.1 bt776.2.1 bt776.2.2 8).bind fun bt781 => (some (bt755.2.1, bt776.1, bt755.2.2.1, bt755.2.2.2.1, bt755.2.2.2.2.1, bt755.2.2.2.2.2.1, bt755.2.2.2.2.2.2.1, bt755.2.2.2.2.2.2.2.1, bt755.2.2.2.2.2.2.2.2.1, bt755.2.2.2.2.2.2.2.2.2.1, bt755.2.2.2.2.2.2.2.2.2.2.1, wrap64 (bt781.1 - 1))))))) = some (r1, r2, r3, r4, r5, r6, r7, r8, r9, r10, r11, r12) := h
 clear h
 obtain ⟨⟨ba, bK, bL⟩, A2, H⟩ := OB H
 obtain ⟨⟨bM, aM, aU, aV, aW, aX, aY, aZ, a3, aA, aB, bd, be⟩, A3, H⟩ := OB H
 obtain ⟨⟨bN, bi, bj⟩, A4, H⟩ := OB H
 obtain ⟨⟨bO, bP, bQ⟩, A5, H⟩ := OB H
 simp only [Option.some.injEq, Prod.mk.injEq] at H
 obtain ⟨rfl, rfl, rfl, rfl, rfl, rfl, rfl, rfl, rfl, rfl, rfl, rfl⟩ := H
 go_enter Try.func17, Try.ntmps17
 try go_wp2_with (first | ((with_reducible refine G2 2 rfl ?_); refine BY 2 #[.slice none 0 0] 34 HB ?_; clear HB; intro ap w6 af b0 HB) | ((with_reducible refine G2 4 rfl ?_); refine BZ 4 #[.int .i64 0, .int .i64 0, .int .i64 0, .int .i64 0, .int .i64 0, .int .i64 0, .int .i64 0, .slice none 0 0, .slice none 0 0] 48 HB ?_; clear HB; intro aq w7 hg hb ac b1 HB; have aa := NP af hg; have ak := NQ af hg; replace af := BV af hb; clear hb hg) | ((with_reducible refine G1 53 rfl ?_); refine GC (some 11) Try.func53 #[.slice A0 l0.length c0] ?_; (with_reducible refine (spec_l6Pair.calls k _ _ l0 ba bK bL bM aM aU aV aW aX aY aZ a3 aA aB bd be w _ ?side1 cz.out cA.out A2.out A3.out).mono ?_); (case side1 => exact BZ0 HB); rintro e w9 ⟨g754, cB, bR, bS, rfl, bf, b2, b3, hi, hb, hb2⟩; refine ⟨_, rfl, ?_⟩; have ae := AM_ (hi); have bg := AM_ (IsS164.ne_blk hi (blk_below (BG1 af) hb2) (by decide)); have aC := AM_ (Ne.symm (IsS164.ne_blk hi (blk_below (BG1 af) hb2) (by decide))); have bh := AM_ (IsS164.ne_blk hi (blk_below (BG1 ac) hb2) (by decide)); have aD := AM_ (Ne.symm (IsS164.ne_blk hi (blk_below (BG1 ac) hb2) (by decide))); have ar := AM_ (Kd.V_lower (Kd.V_mono (ok' := fun k_ => (w.heap.size ≤ k_) ∧ some k_ ≠ (bR : Value).ownBlock ∧ some k_ ≠ (bS : Value).ownBlock ∧ k_ ≠ ap ∧ k_ ≠ aq ∧ k_ ≠ g754) bf (fun k_ hk_ => ⟨(Nat.le_trans (below_size (BT HB.out)) hk_.1.1), hk_.1.2.1, hk_.1.2.2, (Kd.freshB (BG1 af) k_ hk_.1.1), (Kd.freshB (BG1 ac) k_ hk_.1.1), hk_.2⟩)) (below_size (BT HB.out))); replace af := AM_ (blk_below (BG1 af) hb2); replace ac := AM_ (blk_below (BG1 ac) hb2); have au := AM_ (Kd.R_lower (Kd.R_newM (M := fun k_ => (w.heap.size ≤ k_)) (Kd.R_mono (ok' := fun k_ => True) b2 (fun _ hk_ => trivial)) (below_size (BT HB.out)) (fun k_ h_ => h_)) (below_size (BT HB.out))); have av := AM_ (Kd.R_lower (Kd.R_newM (M := fun k_ => (w.heap.size ≤ k_)) (Kd.R_mono (ok' := fun k_ => True) b3 (fun _ hk_ => trivial)) (below_size (BT HB.out)) (fun k_ h_ => h_)) (below_size (BT HB.out))); replace HB := AM_ (hb); (try clear hb); (try clear bf); (try clear b2); (try clear b3)) | ((with_reducible refine G2 7 rfl ?_); refine BX 7 #[.slice none 0 0] 34 ?_; intro aw hg cD hbox hb; replace ar := AM_ (Kd.V_below (Kd.V_elderB (by (with_reducible repeat (first | apply Kd.V_alloc | apply Kd.V_drewN | apply Kd.V_drew)); exact ar.out) aw (Nat.le_of_eq hg.symm)) hb); replace au := RB au hb; replace av := RB av hb; have ao := AM_ (hbox); have b4 := AM_ ((by rw [hg]; exact (below_size (BZ1 HB ae)) : w.heap.size ≤ aw)); have GE774 := AM_ ((by rw [hg]; exact (below_size (BZ1 HB ae)) : w.heap.size ≤ aw)); replace HB := BW1 HB ae hb; have aE := NP af hg; have ax := NQ af hg; replace af := BV af hb; have al := NP ac hg; have ag := NQ ac hg; replace ac := BV ac hb; have aN := NI ae hg; have ay := NJ ae hg; replace ae := IB ae hb; clear hb hbox hg) | ((with_reducible refine G2 8 rfl ?_); refine BX 8 #[.int .i64 0, .int .i64 0, .int .i64 0, .int .i64 0, .int .i64 0, .int .i64 0, .int .i64 0, .slice none 0 0, .slice none 0 0] 48 ?_; intro aj hg cC hbox hb; replace ar := AM_ (Kd.V_below (Kd.V_elderB (by (with_reducible repeat (first | apply Kd.V_alloc | apply Kd.V_drewN | apply Kd.V_drew)); exact ar.out) aj (Nat.le_of_eq hg.symm)) hb); replace au := RB au hb; replace av := RB av hb; have ad := AM_ (hbox); have b6 := AM_ ((by rw [hg]; exact (below_size (BZ1 HB ae)) : w.heap.size ≤ aj)); have GE775 := AM_ ((by rw [hg]; exact (below_size (BZ1 HB ae)) : w.heap.size ≤ aj)); replace HB := BW1 HB ae hb; have aG := NP af hg; have ah := NQ af hg; replace af := BV af hb; have am := NP ac hg; have ab := NQ ac hg; replace ac := BV ac hb; have an := NP ao hg; have aQ := NQ ao hg; replace ao := BV ao hb; have aR := NI ae hg; have az := NJ ae hg; replace ae := IB ae hb; clear hb hbox hg; obtain ⟨a4, a5, bT⟩ := Kd.V_slice ar.out; subst bT; have b7 := ax.out; have b8 := aE.out; have ca := ag.out; have cb := al.out; have cc := an.out; have cd := aQ.out; have ce := ay.out; have cf := aN.out; obtain ⟨bk, bm⟩ := bk1 ao.out; have cg := ah.out; have ch := aG.out; have ci := ab.out; have cj := am.out; have ck := az.out; have cl := aR.out; obtain ⟨bn, bo, bp, bq, br, bu, bv, bw, bx, bz, bA, bB, bC, bD, bE, bF, bG, bH⟩ := bk9 ad.out; obtain ⟨aH, aI, bU⟩ := Kd.R_slice au.out; subst bU; obtain ⟨aJ, aK, bV⟩ := Kd.R_slice av.out; subst bV))
 generalize a7 : (((((((((cC.setCell ⟨aw, 0, none⟩ (.slice a4 aM.length a5)).setCell ⟨aj, 0, none⟩ (.int .i64 aU)).setCell ⟨aj, 1, none⟩ (.int .i64 aV)).setCell ⟨aj, 2, none⟩ (.int .i64 aW)).setCell ⟨aj, 3, none⟩ (.int .i64 aX)).setCell ⟨aj, 4, none⟩ (.int .i64 aY)).setCell ⟨aj, 5, none⟩ (.int .i64 aZ)).setCell ⟨aj, 6, none⟩ (.int .i64 a3)).setCell ⟨aj, 7, none⟩ (.slice aH aA.length aI)).setCell ⟨aj, 8, none⟩ (.slice aJ aB.length aK) = a8
 have cm : Aside0 (Kd.V (Kd.slice 52 k52) 62 a8 w.heap.size (fun k_ => (w.heap.size ≤ k_) ∧ some k_ ≠ (.slice aH aA.length aI : Value).ownBlock ∧ some k_ ≠ (.slice aJ aB.length aK : Value).ownBlock ∧ k_ ≠ ap ∧ k_ ≠ aq ∧ k_ ≠ g754 ∧ k_ ≠ aw ∧ k_ ≠ aj) (.slice a4 aM.length a5) aM) := by subst a7; exact ⟨by (with_reducible repeat (first | apply Kd.V_alloc | apply Kd.V_drewN | apply Kd.V_drew)); exact Kd.V_mono (VF9 (VF1 (Kd.V_mono (Kd.V_mono ar.out (fun k_ hk => (⟨hk, hk.1.2⟩ : _ ∧ k_ ≠ aw))) (fun k_ hk => (⟨hk, hk.1.2⟩ : _ ∧ k_ ≠ aj))) (fun _ hk => hk.1.2)) (fun _ hk => hk.2)) (fun _ hk => ⟨hk.1.1.1.1.1, ⟨hk.1.1.1.1.2.1, ⟨hk.1.1.1.1.2.2.1, ⟨hk.1.1.1.1.2.2.2.1, ⟨hk.1.1.1.1.2.2.2.2.1, ⟨hk.1.1.1.1.2.2.2.2.2, ⟨hk.1.1.1.2, hk.1.1.2⟩⟩⟩⟩⟩⟩⟩)⟩
 have cn : Aside0 (Kd.R k116 116 a8 w.heap.size (fun k_ => (w.heap.size ≤ k_)) (.slice aH aA.length aI) aA) := by subst a7; exact ⟨by (with_reducible repeat (first | apply Kd.R_alloc | apply Kd.R_drewN | apply Kd.R_drew)); exact Kd.R_mono (RF9 (RF1 (Kd.R_types (Kd.R_types au.out ao.out (by decide)) ad.out (by decide)) (fun _ hk => hk.1.2)) (fun _ hk => hk.2)) (fun _ hk => hk.1.1.1)⟩
 have co : Aside0 (Kd.R k103 103 a8 w.heap.size (fun k_ => (w.heap.size ≤ k_)) (.slice aJ aB.length aK) aB) := by subst a7; exact ⟨by (with_reducible repeat (first | apply Kd.R_alloc | apply Kd.R_drewN | apply Kd.R_drew)); exact Kd.R_mono (RF9 (RF1 (Kd.R_types (Kd.R_types av.out ao.out (by decide)) ad.out (by decide)) (fun _ hk => hk.1.2)) (fun _ hk => hk.2)) (fun _ hk => hk.1.1.1)⟩
 have cp : Aside0 (a8.heap[ap]? = some (.cells #[.slice none 0 0] 34 (0, 0))) := by subst a7; exact ⟨BG1 af⟩
 have cq : Aside0 (a8.heap[aq]? = some (.cells #[.int .i64 0, .int .i64 0, .int .i64 0, .int .i64 0, .int .i64 0, .int .i64 0, .int .i64 0, .slice none 0 0, .slice none 0 0] 48 (0, 0))) := by subst a7; exact ⟨BG1 ac⟩
 have cr : Aside0 (a8.heap[aw]? = some (.cells #[.slice a4 aM.length a5] 34 (0, 0))) := by subst a7; exact ⟨by (with_reducible repeat (first | refine blk_drewN ?_ _ | refine blk_drew ?_ | refine blk_alloc ?_ _)); refine blk_far ?_ an.out _; (with_reducible repeat (first | refine blk_drewN ?_ _ | refine blk_drew ?_ | refine blk_alloc ?_ _)); refine blk_far ?_ an.out _; (with_reducible repeat (first | refine blk_drewN ?_ _ | refine blk_drew ?_ | refine blk_alloc ?_ _)); refine blk_far ?_ an.out _; (with_reducible repeat (first | refine blk_drewN ?_ _ | refine blk_drew ?_ | refine blk_alloc ?_ _)); refine blk_far ?_ an.out _; (with_reducible repeat (first | refine blk_drewN ?_ _ | refine blk_drew ?_ | refine blk_alloc ?_ _)); refine blk_far ?_ an.out _; (with_reducible repeat (first | refine blk_drewN ?_ _ | refine blk_drew ?_ | refine blk_alloc ?_ _)); refine blk_far ?_ an.out _; (with_reducible repeat (first | refine blk_drewN ?_ _ | refine blk_drew ?_ | refine blk_alloc ?_ _)); refine blk_far ?_ an.out _; (with_reducible repeat (first | refine blk_drewN ?_ _ | refine blk_drew ?_ | refine blk_alloc ?_ _)); refine blk_far ?_ an.out _; (with_reducible repeat (first | refine blk_drewN ?_ _ | refine blk_drew ?_ | refine blk_alloc ?_ _)); refine blk_far ?_ an.out _; (with_reducible repeat (first | refine blk_drewN ?_ _ | refine blk_drew ?_ | refine blk_alloc ?_ _)); refine blk_put (cs := #[.slice none 0 0]) ?_ 0 _ rfl; (with_reducible repeat (first | refine blk_drewN ?_ _ | refine blk_drew ?_ | refine blk_alloc ?_ _)); exact ao.out⟩
 have ct : Aside0 (a8.heap[aj]? = some (.cells #[.int .i64 aU, .int .i64 aV, .int .i64 aW, .int .i64 aX, .int .i64 aY, .int .i64 aZ, .int .i64 a3, .slice aH aA.length aI, .slice aJ aB.length aK] 48 (0, 0))) := by subst a7; exact ⟨by (with_reducible repeat (first | refine blk_drewN ?_ _ | refine blk_drew ?_ | refine blk_alloc ?_ _)); apply BP9; exact BG1 ad⟩
 have cu : Aside0 (IsS164 w a8 g754 ba bd be) := by subst a7; exact ⟨IZ ae⟩
 have cv : Aside0 (Below w.heap.size w a8) := by subst a7; exact ⟨BZ1 HB ae⟩
 (try clear ar)
 (try clear au)
 (try clear av)
 (try clear af)
 (try clear ac)
 (try clear ao)
 (try clear ad)
 (try clear ae)
 (try clear HB)
 clear a7
 have ar := cm
 have au := cn
 have av := co
 have af := cp
 have ac := cq
 have ao := cr
 have ad := ct
 have ae := cu
 have HB := cv
 clear cm cn co cp cq cr ct cu cv
 replace ar := AM_ (Kd.V_drew ar.out)
 replace au := AM_ (Kd.R_drew au.out)
 replace av := AM_ (Kd.R_drew av.out)
 replace af := BD1 af
 replace ac := BD1 ac
 replace ao := BD1 ao
 replace ad := BD1 ad
 replace ae := AM_ (IsS164.drew ae.out)
 replace HB := BD2 HB
 refine start_ (n := 11) (S := fun w' => w'.cell? ⟨aw, 0, none⟩ = some (.slice a4 aM.length a5) ∧ w'.cell? ⟨aj, 0, none⟩ = some (.int .i64 aU) ∧ w'.cell? ⟨aj, 1, none⟩ = some (.int .i64 aV) ∧ w'.cell? ⟨aj, 2, none⟩ = some (.int .i64 aW) ∧ w'.cell? ⟨aj, 3, none⟩ = some (.int .i64 aX) ∧ w'.cell? ⟨aj, 4, none⟩ = some (.int .i64 aY) ∧ w'.cell? ⟨aj, 5, none⟩ = some (.int .i64 aZ) ∧ w'.cell? ⟨aj, 6, none⟩ = some (.int .i64 a3) ∧ w'.cell? ⟨aj, 7, none⟩ = some (.slice aH aA.length aI) ∧ w'.cell? ⟨aj, 8, none⟩ = some (.slice aJ aB.length aK)) (ds := []) (lo 0 11) (by kernel_rfl) rfl rfl ⟨bc ao.out 0, bc ad.out 0, bc ad.out 1, bc ad.out 2, bc ad.out 3, bc ad.out 4, bc ad.out 5, bc ad.out 6, bc ad.out 7, bc ad.out 8⟩ (fun ai => ?_); refine with_tabW spec_DrawWriteCode.tab2 spec_DrawWriteCode.bits2 (fun aT cw => ?_)
 generalize a8.drew = cE at ar au av af ac ao ad ae HB ai ⊢
 refine PV 1 (some 16) (bs 2 11) aT ?_
 refine PV 4 (some 19) (bs 18 11) aT ?_
 refine TX 0 (some 15) (bs 19 11) aT cw ai ?_
 refine TX 3 (some 18) (bs 27 11) aT cw ai ?_
 refine one_ (i := 2) (N := some 17) (lo 5 11) rfl rfl (one_of aT.out (by kernel_rfl)) (by decide) (fun K hK => ?_)
 refine GO Try.func61 #[.pointer (some ⟨g754, 0, none⟩)] ?_
 with_reducible refine (spec_l10Locks.calls k g754 ba bd be bN bi bj w _ ?side1 ?side2 A4.out).mono ?_
 (case side1 => exact IZ ae)
 (case side2 => exact BZ1 HB ae)
 rintro e cF ⟨bW, rfl, bf, hi, hb, hk⟩
 refine ⟨_, rfl, ?_⟩
 replace af := KB af hk aC
 replace ac := KB ac hk aD
 replace ar := AM_ (Kd.V_mono (Kd.V_told (Kd.V_oldK (Kd.V_mono (ok := fun k_ => (((w.heap.size ≤ k_)) ∧ (some k_ ≠ (.slice aH aA.length aI : Value).ownBlock ∧ (some k_ ≠ (.slice aJ aB.length aK : Value).ownBlock ∧ (k_ ≠ ap ∧ (k_ ≠ aq ∧ (k_ ≠ g754 ∧ (k_ ≠ aw ∧ k_ ≠ aj)))))))) (by (with_reducible repeat (first | apply Kd.V_alloc | apply Kd.V_drewN | apply Kd.V_drew)); exact ar.out) (fun k_ hk_ => (⟨hk_, hk_.2.2.2.2.2.1⟩ : _ ∧ k_ ≠ g754))) hk) (Kd.R_base bf)) (fun _ h_ => h_.1))
 replace au := RK1 au ae hk
 replace av := RK1 av ae hk
 replace ao := KB ao hk ay
 replace ad := KB ad hk az
 have a6 := AM_ (Kd.R_lower (Kd.R_newM (M := fun k_ => (w.heap.size ≤ k_)) bf (below_size (BZ1 HB ae)) (fun k_ h_ => h_)) (below_size (BZ1 HB ae)))
 replace HB := AM_ (hb)
 replace ae := AM_ (hi)
 (try clear hb)
 (try clear hk)
 (try clear hi)
 (try clear bf)
 refine hK.out _ _ ⟨bc ao.out 0, bc ad.out 0, bc ad.out 1, bc ad.out 2, bc ad.out 3, bc ad.out 4, bc ad.out 5, bc ad.out 6, bc ad.out 7, bc ad.out 8⟩ (fun ai => ?_)
 clear hK K
 refine NM 17 ?_
 refine OS aT (fun K hK => ?_)
 refine GO Try.func54 #[.pointer (some ⟨g754, 0, none⟩), .int .i64 8] ?_
 with_reducible refine (spec_l1Below.calls g754 ba bi bj 8 bO bP bQ w _ ?side1 ?side2 A5.out).mono ?_
 (case side1 => exact IZ ae)
 (case side2 => exact BZ1 HB ae)
 rintro e a9 ⟨rfl, hi, hb, hk⟩
 refine ⟨_, rfl, ?_⟩
 replace af := KB af hk aC
 replace ac := KB ac hk aD
 replace ar := AM_ (Kd.V_mono (Kd.V_keep (Kd.V_mono (ok := fun k_ => ((((w.heap.size ≤ k_)) ∧ (some k_ ≠ (.slice aH aA.length aI : Value).ownBlock ∧ (some k_ ≠ (.slice aJ aB.length aK : Value).ownBlock ∧ (k_ ≠ ap ∧ (k_ ≠ aq ∧ (k_ ≠ g754 ∧ (k_ ≠ aw ∧ k_ ≠ aj))))))) ∧ some k_ ≠ (bW : Value).ownBlock)) (by (with_reducible repeat (first | apply Kd.V_alloc | apply Kd.V_drewN | apply Kd.V_drew)); exact ar.out) (fun k_ hk_ => (⟨hk_, hk_.1.2.2.2.2.2.1⟩ : _ ∧ k_ ≠ g754))) hk (fun _ h => h.2)) (fun _ h => h.1))
 replace au := RK1 au ae hk
 replace av := RK1 av ae hk
 replace ao := KB ao hk ay
 replace ad := KB ad hk az
 replace a6 := RK1 a6 ae hk
 replace HB := AM_ (hb)
 replace ae := AM_ (hi)
 (try clear hb)
 (try clear hk)
 (try clear hi)
 refine hK.out _ _ ⟨bc ao.out 0, bc ad.out 0, bc ad.out 1, bc ad.out 2, bc ad.out 3, bc ad.out 4, bc ad.out 5, bc ad.out 6, bc ad.out 7, bc ad.out 8⟩ (fun ai => ?_)
 clear hK K
 refine NM 20 ?_
 refine PS aT ?_
 refine one_ (i := 7) (N := none) (lo 8 11) rfl rfl (one_of aT.out (by kernel_rfl)) (by decide) (fun K hK => ?_)
 have hs28 : a9.cell? ⟨ap, 0, none⟩ = some (.slice none 0 0) := (blk_cell af.out 0).trans rfl
 have hfs28 := blk_frozen af.out 0
 have hns28_1 := ak.out
 have hns28_2 := ax.out
 have hns28_3 := ah.out
 have hms28_1 := aa.out
 have hms28_2 := aE.out
 have hms28_3 := aG.out
 refine skip_ (w1 := ?_) (by rfl) rfl ?_ ?_
 rotate_left
 ·go_simp
  rfl
 refine hK.out _ _ ⟨((cell_far (p := ⟨ap, _, none⟩) ax.out _).trans (ai.1)), ((cell_far (p := ⟨ap, _, none⟩) ah.out _).trans (ai.2.1)), ((cell_far (p := ⟨ap, _, none⟩) ah.out _).trans (ai.2.2.1)), ((cell_far (p := ⟨ap, _, none⟩) ah.out _).trans (ai.2.2.2.1)), ((cell_far (p := ⟨ap, _, none⟩) ah.out _).trans (ai.2.2.2.2.1)), ((cell_far (p := ⟨ap, _, none⟩) ah.out _).trans (ai.2.2.2.2.2.1)), ((cell_far (p := ⟨ap, _, none⟩) ah.out _).trans (ai.2.2.2.2.2.2.1)), ((cell_far (p := ⟨ap, _, none⟩) ah.out _).trans (ai.2.2.2.2.2.2.2.1)), ((cell_far (p := ⟨ap, _, none⟩) ah.out _).trans (ai.2.2.2.2.2.2.2.2.1)), ((cell_far (p := ⟨ap, _, none⟩) ah.out _).trans (ai.2.2.2.2.2.2.2.2.2))⟩ (fun ai => ?_)
 clear hK K
 refine PS aT ?_
 refine one_ (i := 9) (N := none) (lo 10 11) rfl rfl (one_of aT.out (by kernel_rfl)) (by decide) (fun K hK => ?_)
 have hs29 : a9.cell? ⟨aq, 0, none⟩ = some (.int .i64 0) := (blk_cell ac.out 0).trans rfl
 have hfs29 := blk_frozen ac.out 0
 have hns29_0 := aa.out
 have hns29_2 := ag.out
 have hns29_3 := ab.out
 have hms29_0 := ak.out
 have hms29_2 := al.out
 have hms29_3 := am.out
 have hs30 : a9.cell? ⟨aq, 1, none⟩ = some (.int .i64 0) := (blk_cell ac.out 1).trans rfl
 have hfs30 := blk_frozen ac.out 1
 have hns30_0 := aa.out
 have hns30_2 := ag.out
 have hns30_3 := ab.out
 have hms30_0 := ak.out
 have hms30_2 := al.out
 have hms30_3 := am.out
 have hs31 : a9.cell? ⟨aq, 2, none⟩ = some (.int .i64 0) := (blk_cell ac.out 2).trans rfl
 have hfs31 := blk_frozen ac.out 2
 have hns31_0 := aa.out
 have hns31_2 := ag.out
 have hns31_3 := ab.out
 have hms31_0 := ak.out
 have hms31_2 := al.out
 have hms31_3 := am.out
 have hs32 : a9.cell? ⟨aq, 3, none⟩ = some (.int .i64 0) := (blk_cell ac.out 3).trans rfl
 have hfs32 := blk_frozen ac.out 3
 have hns32_0 := aa.out
 have hns32_2 := ag.out
 have hns32_3 := ab.out
 have hms32_0 := ak.out
 have hms32_2 := al.out
 have hms32_3 := am.out
 have hs33 : a9.cell? ⟨aq, 4, none⟩ = some (.int .i64 0) := (blk_cell ac.out 4).trans rfl
 have hfs33 := blk_frozen ac.out 4
 have hns33_0 := aa.out
 have hns33_2 := ag.out
 have hns33_3 := ab.out
 have hms33_0 := ak.out
 have hms33_2 := al.out
 have hms33_3 := am.out
 have hs34 : a9.cell? ⟨aq, 5, none⟩ = some (.int .i64 0) := (blk_cell ac.out 5).trans rfl
 have hfs34 := blk_frozen ac.out 5
 have hns34_0 := aa.out
 have hns34_2 := ag.out
 have hns34_3 := ab.out
 have hms34_0 := ak.out
 have hms34_2 := al.out
 have hms34_3 := am.out
 have hs35 : a9.cell? ⟨aq, 6, none⟩ = some (.int .i64 0) := (blk_cell ac.out 6).trans rfl
 have hfs35 := blk_frozen ac.out 6
 have hns35_0 := aa.out
 have hns35_2 := ag.out
 have hns35_3 := ab.out
 have hms35_0 := ak.out
 have hms35_2 := al.out
 have hms35_3 := am.out
 have hs36 : a9.cell? ⟨aq, 7, none⟩ = some (.slice none 0 0) := (blk_cell ac.out 7).trans rfl
 have hfs36 := blk_frozen ac.out 7
 have hns36_0 := aa.out
 have hns36_2 := ag.out
 have hns36_3 := ab.out
 have hms36_0 := ak.out
 have hms36_2 := al.out
 have hms36_3 := am.out
 have hs37 : a9.cell? ⟨aq, 8, none⟩ = some (.slice none 0 0) := (blk_cell ac.out 8).trans rfl
 have hfs37 := blk_frozen ac.out 8
 have hns37_0 := aa.out
 have hns37_2 := ag.out
 have hns37_3 := ab.out
 have hms37_0 := ak.out
 have hms37_2 := al.out
 have hms37_3 := am.out
 refine skip_ (w1 := ?_) (by rfl) rfl ?_ ?_
 rotate_left
 ·go_simp
  rfl
 refine hK.out _ _ ⟨(CF9 ag.out (ai.1)), (CF9 ab.out (ai.2.1)), (CF9 ab.out (ai.2.2.1)), (CF9 ab.out (ai.2.2.2.1)), (CF9 ab.out (ai.2.2.2.2.1)), (CF9 ab.out (ai.2.2.2.2.2.1)), (CF9 ab.out (ai.2.2.2.2.2.2.1)), (CF9 ab.out (ai.2.2.2.2.2.2.2.1)), (CF9 ab.out (ai.2.2.2.2.2.2.2.2.1)), (CF9 ab.out (ai.2.2.2.2.2.2.2.2.2))⟩ (fun ai => ?_)
 clear hK K
 refine PS aT ?_
 refine done_ (done_of aT.out (by kernel_rfl)) ?_
 try go_wp2
 refine bodyPost_ret (results_list (rs := [.cell 2 34, .tmp 3, .cell 4 48, .tmp 5]) rfl (by simp) (.cell ap 34 #[.slice a4 aM.length a5] (0, 0) _ rfl (by (with_reducible repeat (first | refine blk_drewN ?_ _ | refine blk_drew ?_ | refine blk_alloc ?_ _)); refine blk_far ?_ aa.out _; (with_reducible repeat (first | refine blk_drewN ?_ _ | refine blk_drew ?_ | refine blk_alloc ?_ _)); refine blk_far ?_ aa.out _; (with_reducible repeat (first | refine blk_drewN ?_ _ | refine blk_drew ?_ | refine blk_alloc ?_ _)); refine blk_far ?_ aa.out _; (with_reducible repeat (first | refine blk_drewN ?_ _ | refine blk_drew ?_ | refine blk_alloc ?_ _)); refine blk_far ?_ aa.out _; (with_reducible repeat (first | refine blk_drewN ?_ _ | refine blk_drew ?_ | refine blk_alloc ?_ _)); refine blk_far ?_ aa.out _; (with_reducible repeat (first | refine blk_drewN ?_ _ | refine blk_drew ?_ | refine blk_alloc ?_ _)); refine blk_far ?_ aa.out _; (with_reducible repeat (first | refine blk_drewN ?_ _ | refine blk_drew ?_ | refine blk_alloc ?_ _)); refine blk_far ?_ aa.out _; (with_reducible repeat (first | refine blk_drewN ?_ _ | refine blk_drew ?_ | refine blk_alloc ?_ _)); refine blk_far ?_ aa.out _; (with_reducible repeat (first | refine blk_drewN ?_ _ | refine blk_drew ?_ | refine blk_alloc ?_ _)); refine blk_far ?_ aa.out _; (with_reducible repeat (first | refine blk_drewN ?_ _ | refine blk_drew ?_ | refine blk_alloc ?_ _)); refine blk_put (cs := #[.slice none 0 0]) ?_ 0 _ rfl; (with_reducible repeat (first | refine blk_drewN ?_ _ | refine blk_drew ?_ | refine blk_alloc ?_ _)); exact af.out) Try.underlying34 rfl (by kernel_rfl) (.tmp (.cell aq 48 #[.int .i64 aU, .int .i64 aV, .int .i64 aW, .int .i64 aX, .int .i64 aY, .int .i64 aZ, .int .i64 a3, .slice aH aA.length aI, .slice aJ aB.length aK] (0, 0) _ rfl (by (with_reducible repeat (first | refine blk_drewN ?_ _ | refine blk_drew ?_ | refine blk_alloc ?_ _)); apply BP9; exact BG1 ac) Try.underlying48 rfl (by kernel_rfl) (.tmp .nil))))) rfl ?_
 exact ⟨_, _, _, _, ER, by (with_reducible repeat (first | apply Kd.V_alloc | apply Kd.V_drewN | apply Kd.V_drew)); exact Kd.V_mono (VF9 (VF1 (Kd.V_mono (Kd.V_mono ar.out (fun k_ hk => (⟨hk, hk.1.2.2.2.1⟩ : _ ∧ k_ ≠ ap))) (fun k_ hk => (⟨hk, hk.1.1.2.2.2.2.1⟩ : _ ∧ k_ ≠ aq))) (fun _ hk => hk.1.2)) (fun _ hk => hk.2)) (fun _ hk => ⟨hk.1.1.1.1, ⟨hk.1.1.2, ⟨hk.1.1.1.2.1, hk.1.1.1.2.2.1⟩⟩⟩), by (with_reducible repeat (first | apply Kd.R_alloc | apply Kd.R_drewN | apply Kd.R_drew)); exact Kd.R_mono (RF9 (RF1 (Kd.R_types (Kd.R_types a6.out af.out (by decide)) ac.out (by decide)) (fun _ hk => hk.1.2)) (fun _ hk => hk.2)) (fun _ hk => hk.1.1.1), by (with_reducible repeat (first | apply Kd.R_alloc | apply Kd.R_drewN | apply Kd.R_drew)); exact Kd.R_mono (RF9 (RF1 (Kd.R_types (Kd.R_types au.out af.out (by decide)) ac.out (by decide)) (fun _ hk => hk.1.2)) (fun _ hk => hk.2)) (fun _ hk => hk.1.1), by (with_reducible repeat (first | apply Kd.R_alloc | apply Kd.R_drewN | apply Kd.R_drew)); exact Kd.R_mono (RF9 (RF1 (Kd.R_types (Kd.R_types av.out af.out (by decide)) ac.out (by decide)) (fun _ hk => hk.1.2)) (fun _ hk => hk.2)) (fun _ hk => hk.1.1), BZ1 HB ae⟩

/-! ### impl_AreLocks: function 39 -/
def impl_AreLocks.l0 : Nat → List (S76) → List (S76) → Int → Int → Option (Bool)
 | 0, _, _, _, _ => none
 | k + 1, x0, x5, x6, x7 => if x7 < x6 then (if 0 ≤ x7 then (if x7 < (x5.length : Int) then ((impl_isKey.f ((rd_T76 x5 x7).f0)).bind fun aa => (if aa = true then ((impl_isID.f ((rd_T76 x5 x7).f1)).bind fun ab => (if ab = true then (if x7 > 0 then (if 0 ≤ (wrap64 (x7 - 1)) then (if (wrap64 (x7 - 1)) < (x0.length : Int) then (if ((rd_T76 x0 (wrap64 (x7 - 1))).f0) ≥ ((rd_T76 x5 x7).f0) then (some false) else (impl_AreLocks.l0 k x0 x5 x6 (wrap64 (x7 + 1)))) else (none)) else (none)) else (impl_AreLocks.l0 k x0 x5 x6 (wrap64 (x7 + 1)))) else (some false))) else (some false))) else (none)) else (none)) else (some true)
def impl_AreLocks.f (k : Nat) (l0 : List (S76)) : Option (Bool) := impl_AreLocks.l0 k l0 l0 (l0.length : Int) 0
theorem impl_AreLocks.mono_l : ∀ k, (∀ y0 y1 y2 y3, LeO (impl_AreLocks.l0 k y0 y1 y2 y3) (impl_AreLocks.l0 (k + 1) y0 y1 y2 y3))
 | 0 => fun _ _ _ _ r h => by simp [impl_AreLocks.l0] at h
 | k + 1 => by
  have aa := impl_AreLocks.mono_l k
  all_goals intros; unfold impl_AreLocks.l0
  all_goals repeat' (with_reducible first | exact aa .. | exact LeO.refl _ | exact LeO.none _ | refine LeO.ite ?_ ?_ | refine LeO.bind ?_ (fun _ => ?_))
theorem impl_AreLocks.mono : ∀ a0 k, LeO (impl_AreLocks.f k a0) (impl_AreLocks.f (k + 1) a0) := by
 intro a0 k
 have aa := impl_AreLocks.mono_l k
 unfold impl_AreLocks.f
 repeat' (with_reducible first | exact aa .. | exact LeO.refl _ | exact LeO.none _ | refine LeO.ite ?_ ?_ | refine LeO.bind ?_ (fun _ => ?_))
theorem impl_AreLocks.calls (k : Nat) (A0 : Option Addr) (c0 : Nat) (l0 : List (S76)) (r : Bool) (w : World) (ba : Kd.C k76 w A0 l0.length l0) (bb : l0.length ≤ c0) (h : impl_AreLocks.f k l0 = some r) :
  Calls Try.prog 39 #[.slice A0 l0.length c0] w fun e w' => e = .returned (.bool r) ∧ Below w.heap.size w w' := by
 have bk := Try.underlying76
 have aX := AM_ ba
 have bo := AM_ bb
 clear ba bb
 have HB := AM_ (Below.refl w.heap.size w)
 unfold impl_AreLocks.f at h
 have H := h
 clear h
 have H' := AM_ H
 clear H
 go_enter Try.func39, Try.ntmps39
 go_wp2
 repeat (go_quiet (fail); try go_wp2)
 go_loopg [7] k (fun kq v7 w' => ∃ (af : Int), v7 = .int .i64 af ∧ Aside0 (impl_AreLocks.l0 kq l0 l0 (l0.length : Int) af = some r) ∧ Aside0 (kq ≤ k) ∧ Aside0 (Below w.heap.size w w'))
 case atStart => exact ⟨(0), (by first | rfl | (simp; done) | (simp [*]; done)), H', ⟨Nat.le_refl _⟩, ⟨BT HB.out⟩⟩
 case round =>
  clear H'
  obtain ⟨af, rfl, HA, a5, HB⟩ := hrel
  cases gk with
  | zero => exact absurd HA.out (by simp [impl_AreLocks.l0])
  | succ k1 =>
   have H := HA.out
   clear HA
   simp only [impl_AreLocks.l0] at H
   by_cases c2 : af < (l0.length : Int)
   rotate_left
   ·rw [if_neg c2] at H
    have a6 := decide_eq_false c2
    clear c2
    obtain rfl := SI H
    go_wp2
    repeat (go_quiet (fail); try go_wp2)
    go_ret
    exact QT (BT HB.out)
   rw [if_pos c2] at H
   have a6 := DE c2
   clear c2
   replace H := HI H
   obtain ⟨c3, H⟩ := H
   have bm := DE c3
   clear c3
   replace H := HI H
   obtain ⟨c4, H⟩ := H
   have bn := DE c4
   clear c4
   obtain ⟨a7, A5, H⟩ := OB H
   by_cases c6 : a7 = true
   rotate_left
   ·replace c6 := Bool.eq_false_iff.mpr c6
    subst c6
    replace H := HF H
    obtain rfl := SI H
    have ao : 0 ≤ (af : Int) := DT
    have ap : af < (l0.length : Int) := DT
    obtain ⟨ak, ax, ai, aj⟩ := at_T76 aX.out af ao ap
    cases ax
    replace ai := BC HB.out ai
    replace aj := BC HB.out aj
    replace ao := ET ao
    replace ap := ET ap
    go_wp2_with (first | ((with_reducible refine G2 4 rfl ?_); refine BY 4 #[.int .i64 0, .int .i64 0] 76 HB ?_; clear HB; intro ae bd ag ah HB; obtain ⟨ay, az, aA, aB⟩ := bk2 ag.out) | (go_at_call 56; (with_reducible refine (impl_isKey.calls ((rd_T76 l0 af).f0) false _ A5.out).mono ?_); rintro e w' ⟨rfl, ⟨nd, rfl⟩⟩; (try first | exact DW | exact DX)))
    repeat (go_quiet (first | ((with_reducible refine G2 4 rfl ?_); refine BY 4 #[.int .i64 0, .int .i64 0] 76 HB ?_; clear HB; intro ae bd ag ah HB; obtain ⟨ay, az, aA, aB⟩ := bk2 ag.out) | (go_at_call 56; (with_reducible refine (impl_isKey.calls ((rd_T76 l0 af).f0) false _ A5.out).mono ?_); rintro e w' ⟨rfl, ⟨nd, rfl⟩⟩; (try first | exact DW | exact DX))); try go_wp2_with (first | ((with_reducible refine G2 4 rfl ?_); refine BY 4 #[.int .i64 0, .int .i64 0] 76 HB ?_; clear HB; intro ae bd ag ah HB; obtain ⟨ay, az, aA, aB⟩ := bk2 ag.out) | (go_at_call 56; (with_reducible refine (impl_isKey.calls ((rd_T76 l0 af).f0) false _ A5.out).mono ?_); rintro e w' ⟨rfl, ⟨nd, rfl⟩⟩; (try first | exact DW | exact DX))))
    go_ret
    exact QT (BT HB.out)
   subst c6
   replace H := HT H
   obtain ⟨a8, A7, H⟩ := OB H
   by_cases c8 : a8 = true
   rotate_left
   ·replace c8 := Bool.eq_false_iff.mpr c8
    subst c8
    replace H := HF H
    obtain rfl := SI H
    have ao : 0 ≤ (af : Int) := DT
    have ap : af < (l0.length : Int) := DT
    obtain ⟨ak, ax, ai, aj⟩ := at_T76 aX.out af ao ap
    cases ax
    replace ai := BC HB.out ai
    replace aj := BC HB.out aj
    replace ao := ET ao
    replace ap := ET ap
    go_wp2_with (first | ((with_reducible refine G2 4 rfl ?_); refine BY 4 #[.int .i64 0, .int .i64 0] 76 HB ?_; clear HB; intro ae be ag ah HB; obtain ⟨aC, aD, aE, aG⟩ := bk2 ag.out) | (go_at_call 56; (with_reducible refine (impl_isKey.calls ((rd_T76 l0 af).f0) true _ A5.out).mono ?_); rintro e w' ⟨rfl, ⟨nd, rfl⟩⟩; (try first | exact DW | exact DX)) | (go_at_call 77; (with_reducible refine (impl_isID.calls ((rd_T76 l0 af).f1) false _ A7.out).mono ?_); rintro e w' ⟨rfl, ⟨nd, rfl⟩⟩; (try first | exact DW | exact DX)))
    repeat (go_quiet (first | ((with_reducible refine G2 4 rfl ?_); refine BY 4 #[.int .i64 0, .int .i64 0] 76 HB ?_; clear HB; intro ae be ag ah HB; obtain ⟨aC, aD, aE, aG⟩ := bk2 ag.out) | (go_at_call 56; (with_reducible refine (impl_isKey.calls ((rd_T76 l0 af).f0) true _ A5.out).mono ?_); rintro e w' ⟨rfl, ⟨nd, rfl⟩⟩; (try first | exact DW | exact DX)) | (go_at_call 77; (with_reducible refine (impl_isID.calls ((rd_T76 l0 af).f1) false _ A7.out).mono ?_); rintro e w' ⟨rfl, ⟨nd, rfl⟩⟩; (try first | exact DW | exact DX))); try go_wp2_with (first | ((with_reducible refine G2 4 rfl ?_); refine BY 4 #[.int .i64 0, .int .i64 0] 76 HB ?_; clear HB; intro ae be ag ah HB; obtain ⟨aC, aD, aE, aG⟩ := bk2 ag.out) | (go_at_call 56; (with_reducible refine (impl_isKey.calls ((rd_T76 l0 af).f0) true _ A5.out).mono ?_); rintro e w' ⟨rfl, ⟨nd, rfl⟩⟩; (try first | exact DW | exact DX)) | (go_at_call 77; (with_reducible refine (impl_isID.calls ((rd_T76 l0 af).f1) false _ A7.out).mono ?_); rintro e w' ⟨rfl, ⟨nd, rfl⟩⟩; (try first | exact DW | exact DX))))
    go_ret
    exact QT (BT HB.out)
   subst c8
   replace H := HT H
   by_cases c9 : af > 0
   rotate_left
   ·rw [if_neg c9] at H
    have a9 : decide (0 < af) = false := decide_eq_false c9
    clear c9
    have H' := AM_ H
    clear H
    have ao : 0 ≤ (af : Int) := DT
    have ap : af < (l0.length : Int) := DT
    obtain ⟨ak, ax, ai, aj⟩ := at_T76 aX.out af ao ap
    cases ax
    replace ai := BC HB.out ai
    replace aj := BC HB.out aj
    replace ao := ET ao
    replace ap := ET ap
    go_wp2_with (first | ((with_reducible refine G2 4 rfl ?_); refine BY 4 #[.int .i64 0, .int .i64 0] 76 HB ?_; clear HB; intro ae bf ag ah HB; obtain ⟨aH, aI, aJ, aK⟩ := bk2 ag.out) | (go_at_call 56; (with_reducible refine (impl_isKey.calls ((rd_T76 l0 af).f0) true _ A5.out).mono ?_); rintro e w' ⟨rfl, ⟨nd, rfl⟩⟩; (try first | exact DW | exact DX)) | (go_at_call 77; (with_reducible refine (impl_isID.calls ((rd_T76 l0 af).f1) true _ A7.out).mono ?_); rintro e w' ⟨rfl, ⟨nd, rfl⟩⟩; (try first | exact DW | exact DX)))
    repeat (go_quiet (first | ((with_reducible refine G2 4 rfl ?_); refine BY 4 #[.int .i64 0, .int .i64 0] 76 HB ?_; clear HB; intro ae bf ag ah HB; obtain ⟨aH, aI, aJ, aK⟩ := bk2 ag.out) | (go_at_call 56; (with_reducible refine (impl_isKey.calls ((rd_T76 l0 af).f0) true _ A5.out).mono ?_); rintro e w' ⟨rfl, ⟨nd, rfl⟩⟩; (try first | exact DW | exact DX)) | (go_at_call 77; (with_reducible refine (impl_isID.calls ((rd_T76 l0 af).f1) true _ A7.out).mono ?_); rintro e w' ⟨rfl, ⟨nd, rfl⟩⟩; (try first | exact DW | exact DX))); try go_wp2_with (first | ((with_reducible refine G2 4 rfl ?_); refine BY 4 #[.int .i64 0, .int .i64 0] 76 HB ?_; clear HB; intro ae bf ag ah HB; obtain ⟨aH, aI, aJ, aK⟩ := bk2 ag.out) | (go_at_call 56; (with_reducible refine (impl_isKey.calls ((rd_T76 l0 af).f0) true _ A5.out).mono ?_); rintro e w' ⟨rfl, ⟨nd, rfl⟩⟩; (try first | exact DW | exact DX)) | (go_at_call 77; (with_reducible refine (impl_isID.calls ((rd_T76 l0 af).f1) true _ A7.out).mono ?_); rintro e w' ⟨rfl, ⟨nd, rfl⟩⟩; (try first | exact DW | exact DX))))
    go_roundg k1
    case measure => have := a5.out; omega
    case rel => exact ⟨(wrap64 (af + 1)), (by first | rfl | (simp; done) | (simp [*]; done)), H', ⟨by have := a5.out; omega⟩, ⟨BT HB.out⟩⟩
   rw [if_pos c9] at H
   have a9 : decide (0 < af) = true := DE c9
   clear c9
   obtain ⟨al, aw⟩ : ∃ j_ : Int, (wrap64 (af - 1)) = j_ := ⟨_, rfl⟩
   replace H : (if 0 ≤ (al) then (if (al) < (l0.length : Int) then (if ((rd_T76 l0 (al)).f0) ≥ ((rd_T76 l0 af).f0) then (some false) else (impl_AreLocks.l0 k1 l0 l0 (l0.length : Int) (wrap64 (af + 1)))) else (none)) else (none)) = some r := by first | (rw [aw] at H; exact H) | (simp only [aw] at H ⊢; exact H)
   (try rw [aw] at A5)
   (try rw [aw] at A7)
   have hji10w : (IntKind.i64.wrap (af - 1)) = al := (i64_w _).trans aw
   replace H := HI H
   obtain ⟨bg, H⟩ := H
   have bh := DE bg
   clear bg
   replace H := HI H
   obtain ⟨bi, H⟩ := H
   have bj := DE bi
   clear bi
   by_cases a3 : ((rd_T76 l0 (al)).f0) ≥ ((rd_T76 l0 af).f0)
   rotate_left
   ·rw [if_neg a3] at H
    have a4 : decide (((rd_T76 l0 af).f0) ≤ ((rd_T76 l0 (al)).f0)) = false := decide_eq_false a3
    clear a3
    have H' := AM_ H
    clear H
    have ao : 0 ≤ (af : Int) := DT
    have ap : af < (l0.length : Int) := DT
    obtain ⟨ak, ax, ai, aj⟩ := at_T76 aX.out af ao ap
    cases ax
    replace ai := BC HB.out ai
    replace aj := BC HB.out aj
    replace ao := ET ao
    replace ap := ET ap
    go_wp2_with (first | ((with_reducible refine G2 4 rfl ?_); refine BY 4 #[.int .i64 0, .int .i64 0] 76 HB ?_; clear HB; intro ae aY ag ah HB; obtain ⟨aM, aN, aQ, aR⟩ := bk2 ag.out) | (go_at_call 56; (with_reducible refine (impl_isKey.calls ((rd_T76 l0 af).f0) true _ A5.out).mono ?_); rintro e w' ⟨rfl, ⟨nd, rfl⟩⟩; (try first | exact DW | exact DX)) | (go_at_call 77; (with_reducible refine (impl_isID.calls ((rd_T76 l0 af).f1) true _ A7.out).mono ?_); rintro e w' ⟨rfl, ⟨nd, rfl⟩⟩; (try first | exact DW | exact DX); have am : 0 ≤ ((al) : Int) := DT; have an : (al) < (l0.length : Int) := DT; obtain ⟨aq, av, aa, ab⟩ := at_T76 aX.out (al) am an; obtain rfl : ak = aq := (by injection av); have ac : ak.block ≠ ae := Nat.ne_of_lt (Nat.lt_of_lt_of_le (by have := World.block_lt_of_cell? _ _ aa; first | rwa [add_block] at this | exact this) ah.out); have ad : ak.block ≠ ae := Nat.ne_of_lt (Nat.lt_of_lt_of_le (by have := World.block_lt_of_cell? _ _ aa; first | rwa [add_block] at this | exact this) ah.out); replace aa := BD HB.out aa; replace ab := BD HB.out ab; replace aa := (cell_far (p := ⟨ae, 0, none⟩) (by first | (rw [add_block]; exact ac) | (show (Addr.add _ _).block ≠ _; rw [add_block]; exact ac) | exact ac) (.int .i64 ((rd_T76 l0 af).f0))).trans aa; replace ab := (cell_far (p := ⟨ae, 0, none⟩) (by first | (rw [add_block]; exact ac) | (show (Addr.add _ _).block ≠ _; rw [add_block]; exact ac) | exact ac) (.int .i64 ((rd_T76 l0 af).f0))).trans ab; replace aa := (cell_far (p := ⟨ae, 1, none⟩) (by first | (rw [add_block]; exact ad) | (show (Addr.add _ _).block ≠ _; rw [add_block]; exact ad) | exact ad) (.int .i64 ((rd_T76 l0 af).f1))).trans aa; replace ab := (cell_far (p := ⟨ae, 1, none⟩) (by first | (rw [add_block]; exact ad) | (show (Addr.add _ _).block ≠ _; rw [add_block]; exact ad) | exact ad) (.int .i64 ((rd_T76 l0 af).f1))).trans ab; (try have ar := fun (n_ : Nat) => (show ((((aY.drewN n_).setCell ⟨ae, 0, none⟩ (.int .i64 ((rd_T76 l0 af).f0))).setCell ⟨ae, 1, none⟩ (.int .i64 ((rd_T76 l0 af).f1)))).cell? _ = some _ from aa)); (try have au := fun (n_ : Nat) => (show ((((aY.drewN n_).setCell ⟨ae, 0, none⟩ (.int .i64 ((rd_T76 l0 af).f0))).setCell ⟨ae, 1, none⟩ (.int .i64 ((rd_T76 l0 af).f1)))).cell? _ = some _ from ab)); clear ac; clear ad; replace am := eq_true am; replace an := eq_true an))
    repeat (go_quiet (first | ((with_reducible refine G2 4 rfl ?_); refine BY 4 #[.int .i64 0, .int .i64 0] 76 HB ?_; clear HB; intro ae aY ag ah HB; obtain ⟨aM, aN, aQ, aR⟩ := bk2 ag.out) | (go_at_call 56; (with_reducible refine (impl_isKey.calls ((rd_T76 l0 af).f0) true _ A5.out).mono ?_); rintro e w' ⟨rfl, ⟨nd, rfl⟩⟩; (try first | exact DW | exact DX)) | (go_at_call 77; (with_reducible refine (impl_isID.calls ((rd_T76 l0 af).f1) true _ A7.out).mono ?_); rintro e w' ⟨rfl, ⟨nd, rfl⟩⟩; (try first | exact DW | exact DX); have am : 0 ≤ ((al) : Int) := DT; have an : (al) < (l0.length : Int) := DT; obtain ⟨aq, av, aa, ab⟩ := at_T76 aX.out (al) am an; obtain rfl : ak = aq := (by injection av); have ac : ak.block ≠ ae := Nat.ne_of_lt (Nat.lt_of_lt_of_le (by have := World.block_lt_of_cell? _ _ aa; first | rwa [add_block] at this | exact this) ah.out); have ad : ak.block ≠ ae := Nat.ne_of_lt (Nat.lt_of_lt_of_le (by have := World.block_lt_of_cell? _ _ aa; first | rwa [add_block] at this | exact this) ah.out); replace aa := BD HB.out aa; replace ab := BD HB.out ab; replace aa := (cell_far (p := ⟨ae, 0, none⟩) (by first | (rw [add_block]; exact ac) | (show (Addr.add _ _).block ≠ _; rw [add_block]; exact ac) | exact ac) (.int .i64 ((rd_T76 l0 af).f0))).trans aa; replace ab := (cell_far (p := ⟨ae, 0, none⟩) (by first | (rw [add_block]; exact ac) | (show (Addr.add _ _).block ≠ _; rw [add_block]; exact ac) | exact ac) (.int .i64 ((rd_T76 l0 af).f0))).trans ab; replace aa := (cell_far (p := ⟨ae, 1, none⟩) (by first | (rw [add_block]; exact ad) | (show (Addr.add _ _).block ≠ _; rw [add_block]; exact ad) | exact ad) (.int .i64 ((rd_T76 l0 af).f1))).trans aa; replace ab := (cell_far (p := ⟨ae, 1, none⟩) (by first | (rw [add_block]; exact ad) | (show (Addr.add _ _).block ≠ _; rw [add_block]; exact ad) | exact ad) (.int .i64 ((rd_T76 l0 af).f1))).trans ab; (try have ar := fun (n_ : Nat) => (show ((((aY.drewN n_).setCell ⟨ae, 0, none⟩ (.int .i64 ((rd_T76 l0 af).f0))).setCell ⟨ae, 1, none⟩ (.int .i64 ((rd_T76 l0 af).f1)))).cell? _ = some _ from aa)); (try have au := fun (n_ : Nat) => (show ((((aY.drewN n_).setCell ⟨ae, 0, none⟩ (.int .i64 ((rd_T76 l0 af).f0))).setCell ⟨ae, 1, none⟩ (.int .i64 ((rd_T76 l0 af).f1)))).cell? _ = some _ from ab)); clear ac; clear ad; replace am := eq_true am; replace an := eq_true an)); try go_wp2_with (first | ((with_reducible refine G2 4 rfl ?_); refine BY 4 #[.int .i64 0, .int .i64 0] 76 HB ?_; clear HB; intro ae aY ag ah HB; obtain ⟨aM, aN, aQ, aR⟩ := bk2 ag.out) | (go_at_call 56; (with_reducible refine (impl_isKey.calls ((rd_T76 l0 af).f0) true _ A5.out).mono ?_); rintro e w' ⟨rfl, ⟨nd, rfl⟩⟩; (try first | exact DW | exact DX)) | (go_at_call 77; (with_reducible refine (impl_isID.calls ((rd_T76 l0 af).f1) true _ A7.out).mono ?_); rintro e w' ⟨rfl, ⟨nd, rfl⟩⟩; (try first | exact DW | exact DX); have am : 0 ≤ ((al) : Int) := DT; have an : (al) < (l0.length : Int) := DT; obtain ⟨aq, av, aa, ab⟩ := at_T76 aX.out (al) am an; obtain rfl : ak = aq := (by injection av); have ac : ak.block ≠ ae := Nat.ne_of_lt (Nat.lt_of_lt_of_le (by have := World.block_lt_of_cell? _ _ aa; first | rwa [add_block] at this | exact this) ah.out); have ad : ak.block ≠ ae := Nat.ne_of_lt (Nat.lt_of_lt_of_le (by have := World.block_lt_of_cell? _ _ aa; first | rwa [add_block] at this | exact this) ah.out); replace aa := BD HB.out aa; replace ab := BD HB.out ab; replace aa := (cell_far (p := ⟨ae, 0, none⟩) (by first | (rw [add_block]; exact ac) | (show (Addr.add _ _).block ≠ _; rw [add_block]; exact ac) | exact ac) (.int .i64 ((rd_T76 l0 af).f0))).trans aa; replace ab := (cell_far (p := ⟨ae, 0, none⟩) (by first | (rw [add_block]; exact ac) | (show (Addr.add _ _).block ≠ _; rw [add_block]; exact ac) | exact ac) (.int .i64 ((rd_T76 l0 af).f0))).trans ab; replace aa := (cell_far (p := ⟨ae, 1, none⟩) (by first | (rw [add_block]; exact ad) | (show (Addr.add _ _).block ≠ _; rw [add_block]; exact ad) | exact ad) (.int .i64 ((rd_T76 l0 af).f1))).trans aa; replace ab := (cell_far (p := ⟨ae, 1, none⟩) (by first | (rw [add_block]; exact ad) | (show (Addr.add _ _).block ≠ _; rw [add_block]; exact ad) | exact ad) (.int .i64 ((rd_T76 l0 af).f1))).trans ab; (try have ar := fun (n_ : Nat) => (show ((((aY.drewN n_).setCell ⟨ae, 0, none⟩ (.int .i64 ((rd_T76 l0 af).f0))).setCell ⟨ae, 1, none⟩ (.int .i64 ((rd_T76 l0 af).f1)))).cell? _ = some _ from aa)); (try have au := fun (n_ : Nat) => (show ((((aY.drewN n_).setCell ⟨ae, 0, none⟩ (.int .i64 ((rd_T76 l0 af).f0))).setCell ⟨ae, 1, none⟩ (.int .i64 ((rd_T76 l0 af).f1)))).cell? _ = some _ from ab)); clear ac; clear ad; replace am := eq_true am; replace an := eq_true an)))
    go_roundg k1
    case measure => have := a5.out; omega
    case rel => exact ⟨(wrap64 (af + 1)), (by first | rfl | (simp; done) | (simp [*]; done)), H', ⟨by have := a5.out; omega⟩, ⟨BT HB.out⟩⟩
   rw [if_pos a3] at H
   have a4 : decide (((rd_T76 l0 af).f0) ≤ ((rd_T76 l0 (al)).f0)) = true := DE a3
   clear a3
   obtain rfl := SI H
   have ao : 0 ≤ (af : Int) := DT
   have ap : af < (l0.length : Int) := DT
   obtain ⟨ak, ax, ai, aj⟩ := at_T76 aX.out af ao ap
   cases ax
   replace ai := BC HB.out ai
   replace aj := BC HB.out aj
   replace ao := ET ao
   replace ap := ET ap
   go_wp2_with (first | ((with_reducible refine G2 4 rfl ?_); refine BY 4 #[.int .i64 0, .int .i64 0] 76 HB ?_; clear HB; intro ae aZ ag ah HB; obtain ⟨aT, aU, aV, aW⟩ := bk2 ag.out) | (go_at_call 56; (with_reducible refine (impl_isKey.calls ((rd_T76 l0 af).f0) true _ A5.out).mono ?_); rintro e w' ⟨rfl, ⟨nd, rfl⟩⟩; (try first | exact DW | exact DX)) | (go_at_call 77; (with_reducible refine (impl_isID.calls ((rd_T76 l0 af).f1) true _ A7.out).mono ?_); rintro e w' ⟨rfl, ⟨nd, rfl⟩⟩; (try first | exact DW | exact DX); have am : 0 ≤ ((al) : Int) := DT; have an : (al) < (l0.length : Int) := DT; obtain ⟨aq, av, aa, ab⟩ := at_T76 aX.out (al) am an; obtain rfl : ak = aq := (by injection av); have ac : ak.block ≠ ae := Nat.ne_of_lt (Nat.lt_of_lt_of_le (by have := World.block_lt_of_cell? _ _ aa; first | rwa [add_block] at this | exact this) ah.out); have ad : ak.block ≠ ae := Nat.ne_of_lt (Nat.lt_of_lt_of_le (by have := World.block_lt_of_cell? _ _ aa; first | rwa [add_block] at this | exact this) ah.out); replace aa := BD HB.out aa; replace ab := BD HB.out ab; replace aa := (cell_far (p := ⟨ae, 0, none⟩) (by first | (rw [add_block]; exact ac) | (show (Addr.add _ _).block ≠ _; rw [add_block]; exact ac) | exact ac) (.int .i64 ((rd_T76 l0 af).f0))).trans aa; replace ab := (cell_far (p := ⟨ae, 0, none⟩) (by first | (rw [add_block]; exact ac) | (show (Addr.add _ _).block ≠ _; rw [add_block]; exact ac) | exact ac) (.int .i64 ((rd_T76 l0 af).f0))).trans ab; replace aa := (cell_far (p := ⟨ae, 1, none⟩) (by first | (rw [add_block]; exact ad) | (show (Addr.add _ _).block ≠ _; rw [add_block]; exact ad) | exact ad) (.int .i64 ((rd_T76 l0 af).f1))).trans aa; replace ab := (cell_far (p := ⟨ae, 1, none⟩) (by first | (rw [add_block]; exact ad) | (show (Addr.add _ _).block ≠ _; rw [add_block]; exact ad) | exact ad) (.int .i64 ((rd_T76 l0 af).f1))).trans ab; (try have ar := fun (n_ : Nat) => (show ((((aZ.drewN n_).setCell ⟨ae, 0, none⟩ (.int .i64 ((rd_T76 l0 af).f0))).setCell ⟨ae, 1, none⟩ (.int .i64 ((rd_T76 l0 af).f1)))).cell? _ = some _ from aa)); (try have au := fun (n_ : Nat) => (show ((((aZ.drewN n_).setCell ⟨ae, 0, none⟩ (.int .i64 ((rd_T76 l0 af).f0))).setCell ⟨ae, 1, none⟩ (.int .i64 ((rd_T76 l0 af).f1)))).cell? _ = some _ from ab)); clear ac; clear ad; replace am := eq_true am; replace an := eq_true an))
   repeat (go_quiet (first | ((with_reducible refine G2 4 rfl ?_); refine BY 4 #[.int .i64 0, .int .i64 0] 76 HB ?_; clear HB; intro ae aZ ag ah HB; obtain ⟨aT, aU, aV, aW⟩ := bk2 ag.out) | (go_at_call 56; (with_reducible refine (impl_isKey.calls ((rd_T76 l0 af).f0) true _ A5.out).mono ?_); rintro e w' ⟨rfl, ⟨nd, rfl⟩⟩; (try first | exact DW | exact DX)) | (go_at_call 77; (with_reducible refine (impl_isID.calls ((rd_T76 l0 af).f1) true _ A7.out).mono ?_); rintro e w' ⟨rfl, ⟨nd, rfl⟩⟩; (try first | exact DW | exact DX); have am : 0 ≤ ((al) : Int) := DT; have an : (al) < (l0.length : Int) := DT; obtain ⟨aq, av, aa, ab⟩ := at_T76 aX.out (al) am an; obtain rfl : ak = aq := (by injection av); have ac : ak.block ≠ ae := Nat.ne_of_lt (Nat.lt_of_lt_of_le (by have := World.block_lt_of_cell? _ _ aa; first | rwa [add_block] at this | exact this) ah.out); have ad : ak.block ≠ ae := Nat.ne_of_lt (Nat.lt_of_lt_of_le (by have := World.block_lt_of_cell? _ _ aa; first | rwa [add_block] at this | exact this) ah.out); replace aa := BD HB.out aa; replace ab := BD HB.out ab; replace aa := (cell_far (p := ⟨ae, 0, none⟩) (by first | (rw [add_block]; exact ac) | (show (Addr.add _ _).block ≠ _; rw [add_block]; exact ac) | exact ac) (.int .i64 ((rd_T76 l0 af).f0))).trans aa; replace ab := (cell_far (p := ⟨ae, 0, none⟩) (by first | (rw [add_block]; exact ac) | (show (Addr.add _ _).block ≠ _; rw [add_block]; exact ac) | exact ac) (.int .i64 ((rd_T76 l0 af).f0))).trans ab; replace aa := (cell_far (p := ⟨ae, 1, none⟩) (by first | (rw [add_block]; exact ad) | (show (Addr.add _ _).block ≠ _; rw [add_block]; exact ad) | exact ad) (.int .i64 ((rd_T76 l0 af).f1))).trans aa; replace ab := (cell_far (p := ⟨ae, 1, none⟩) (by first | (rw [add_block]; exact ad) | (show (Addr.add _ _).block ≠ _; rw [add_block]; exact ad) | exact ad) (.int .i64 ((rd_T76 l0 af).f1))).trans ab; (try have ar := fun (n_ : Nat) => (show ((((aZ.drewN n_).setCell ⟨ae, 0, none⟩ (.int .i64 ((rd_T76 l0 af).f0))).setCell ⟨ae, 1, none⟩ (.int .i64 ((rd_T76 l0 af).f1)))).cell? _ = some _ from aa)); (try have au := fun (n_ : Nat) => (show ((((aZ.drewN n_).setCell ⟨ae, 0, none⟩ (.int .i64 ((rd_T76 l0 af).f0))).setCell ⟨ae, 1, none⟩ (.int .i64 ((rd_T76 l0 af).f1)))).cell? _ = some _ from ab)); clear ac; clear ad; replace am := eq_true am; replace an := eq_true an)); try go_wp2_with (first | ((with_reducible refine G2 4 rfl ?_); refine BY 4 #[.int .i64 0, .int .i64 0] 76 HB ?_; clear HB; intro ae aZ ag ah HB; obtain ⟨aT, aU, aV, aW⟩ := bk2 ag.out) | (go_at_call 56; (with_reducible refine (impl_isKey.calls ((rd_T76 l0 af).f0) true _ A5.out).mono ?_); rintro e w' ⟨rfl, ⟨nd, rfl⟩⟩; (try first | exact DW | exact DX)) | (go_at_call 77; (with_reducible refine (impl_isID.calls ((rd_T76 l0 af).f1) true _ A7.out).mono ?_); rintro e w' ⟨rfl, ⟨nd, rfl⟩⟩; (try first | exact DW | exact DX); have am : 0 ≤ ((al) : Int) := DT; have an : (al) < (l0.length : Int) := DT; obtain ⟨aq, av, aa, ab⟩ := at_T76 aX.out (al) am an; obtain rfl : ak = aq := (by injection av); have ac : ak.block ≠ ae := Nat.ne_of_lt (Nat.lt_of_lt_of_le (by have := World.block_lt_of_cell? _ _ aa; first | rwa [add_block] at this | exact this) ah.out); have ad : ak.block ≠ ae := Nat.ne_of_lt (Nat.lt_of_lt_of_le (by have := World.block_lt_of_cell? _ _ aa; first | rwa [add_block] at this | exact this) ah.out); replace aa := BD HB.out aa; replace ab := BD HB.out ab; replace aa := (cell_far (p := ⟨ae, 0, none⟩) (by first | (rw [add_block]; exact ac) | (show (Addr.add _ _).block ≠ _; rw [add_block]; exact ac) | exact ac) (.int .i64 ((rd_T76 l0 af).f0))).trans aa; replace ab := (cell_far (p := ⟨ae, 0, none⟩) (by first | (rw [add_block]; exact ac) | (show (Addr.add _ _).block ≠ _; rw [add_block]; exact ac) | exact ac) (.int .i64 ((rd_T76 l0 af).f0))).trans ab; replace aa := (cell_far (p := ⟨ae, 1, none⟩) (by first | (rw [add_block]; exact ad) | (show (Addr.add _ _).block ≠ _; rw [add_block]; exact ad) | exact ad) (.int .i64 ((rd_T76 l0 af).f1))).trans aa; replace ab := (cell_far (p := ⟨ae, 1, none⟩) (by first | (rw [add_block]; exact ad) | (show (Addr.add _ _).block ≠ _; rw [add_block]; exact ad) | exact ad) (.int .i64 ((rd_T76 l0 af).f1))).trans ab; (try have ar := fun (n_ : Nat) => (show ((((aZ.drewN n_).setCell ⟨ae, 0, none⟩ (.int .i64 ((rd_T76 l0 af).f0))).setCell ⟨ae, 1, none⟩ (.int .i64 ((rd_T76 l0 af).f1)))).cell? _ = some _ from aa)); (try have au := fun (n_ : Nat) => (show ((((aZ.drewN n_).setCell ⟨ae, 0, none⟩ (.int .i64 ((rd_T76 l0 af).f0))).setCell ⟨ae, 1, none⟩ (.int .i64 ((rd_T76 l0 af).f1)))).cell? _ = some _ from ab)); clear ac; clear ad; replace am := eq_true am; replace an := eq_true an)))
   go_ret
   exact ⟨by first | rfl | (simp [errW_none, errW_some] <;> rfl) | (simp only [← aw]; first | rfl | (simp [errW_none, errW_some] <;> rfl)) | (simp [*, errW_none, errW_some] <;> rfl), BT HB.out⟩

/-! ### impl_LockOwner_1: function 126 -/
def impl_LockOwner_1.f (aa : Int) (ac : Int) (ab : Int) : Option (Bool) := some (aa == ab)
theorem impl_LockOwner_1.calls (ac : Int) (ad : Int) (an : Nat) (ae : Int) (r : Bool) (w : World) (hb1 : w.heap[an]? = some (.cells #[.int .i64 ae] 3 (0, 0))) (h : impl_LockOwner_1.f ac ad ae = some r) :
  Calls Try.prog 126 #[.agg #[.int .i64 ac, .int .i64 ad], .pointer (some ⟨an, 0, none⟩)] w fun e w' => e = .returned (.bool r) ∧ Below w.heap.size w w' := by
 have aq := Try.underlying76
 have af := AM_ hb1
 clear hb1
 have HB := AM_ (Below.refl w.heap.size w)
 unfold impl_LockOwner_1.f at h
 have H := h
 clear h
 obtain rfl := SI H
 go_enter Try.func126, Try.ntmps126
 go_wp2_with (first | ((with_reducible refine G2 2 rfl ?_); refine BZ 2 #[.int .i64 ac, .int .i64 ad] 76 HB ?_; clear HB; intro ao w3 hg hb ag ap HB; have aa := NP af hg; have ab := NQ af hg; replace af := BV af hb; clear hb hg; have ar := ab.out; have au := aa.out; obtain ⟨ah, ai, aj, ak⟩ := bk2 ag.out; obtain ⟨al, am⟩ := bk1 af.out))
 go_ret
 exact QT (BT HB.out)

/-! ### impl_Lock: function 80 -/
def impl_Lock.l0 : Nat → List (S76) → Int → Int → Int → Option (Int)
 | 0, _, _, _, _ => none
 | k + 1, x0, x7, x8, aa => if x8 < x7 then (if 0 ≤ x8 then (if x8 < (x0.length : Int) then ((impl_LockOwner_1.f ((rd_T76 x0 x8).f0) ((rd_T76 x0 x8).f1) aa).bind fun ab => (if ab = true then (some x8) else (impl_Lock.l0 k x0 x7 (wrap64 (x8 + 1)) aa))) else (none)) else (none)) else (some (-1))
def impl_Lock.f (k : Nat) (l0 : List (S76)) (aa : Int) : Option (Int) := impl_Lock.l0 k l0 (l0.length : Int) 0 aa
theorem impl_Lock.mono_l : ∀ k, (∀ y0 y1 y2 y3, LeO (impl_Lock.l0 k y0 y1 y2 y3) (impl_Lock.l0 (k + 1) y0 y1 y2 y3))
 | 0 => fun _ _ _ _ r h => by simp [impl_Lock.l0] at h
 | k + 1 => by
  have aa := impl_Lock.mono_l k
  all_goals intros; unfold impl_Lock.l0
  all_goals repeat' (with_reducible first | exact aa .. | exact LeO.refl _ | exact LeO.none _ | refine LeO.ite ?_ ?_ | refine LeO.bind ?_ (fun _ => ?_))
theorem impl_Lock.mono : ∀ a0 a1 k, LeO (impl_Lock.f k a0 a1) (impl_Lock.f (k + 1) a0 a1) := by
 intro a0 a1 k
 have aa := impl_Lock.mono_l k
 unfold impl_Lock.f
 repeat' (with_reducible first | exact aa .. | exact LeO.refl _ | exact LeO.none _ | refine LeO.ite ?_ ?_ | refine LeO.bind ?_ (fun _ => ?_))
theorem impl_Lock.calls (k : Nat) (A0 : Option Addr) (c0 : Nat) (l0 : List (S76)) (ae : Nat) (ab : Int) (r : Int) (w : World) (al : Kd.C k76 w A0 l0.length l0) (am : l0.length ≤ c0) (hb30 : w.heap[ae]? = some (.cells #[.int .i64 ab] 3 (0, 0))) (h : impl_Lock.f k l0 ab = some r) :
  Calls Try.prog 80 #[.slice A0 l0.length c0, .func (.func 126) #[] #[.pointer (some ⟨ae, 0, none⟩)]] w fun e w' => e = .returned (.int .i64 r) ∧ Below w.heap.size w w' := by
 have ap := Try.underlying76
 have af := AM_ hb30
 clear hb30
 have aq := AM_ al
 have av := AM_ am
 clear al am
 have HB := AM_ (Below.refl w.heap.size w)
 unfold impl_Lock.f at h
 have H := h
 clear h
 have H' := AM_ H
 clear H
 go_enter Try.func80, Try.ntmps80
 go_wp2
 go_loopg [8] k (fun kq v8 w' => ∃ (aa : Int), v8 = .int .i64 aa ∧ Aside0 (impl_Lock.l0 kq l0 (l0.length : Int) aa ab = some r) ∧ Aside0 (kq ≤ k) ∧ Aside0 (w'.heap[ae]? = some (.cells #[.int .i64 ab] 3 (0, 0))) ∧ Aside0 (Below w.heap.size w w'))
 case atStart => exact ⟨(0), (by first | rfl | (simp; done) | (simp [*]; done)), H', ⟨Nat.le_refl _⟩, ⟨BH af.out⟩, ⟨BT HB.out⟩⟩
 case round =>
  clear H'
  obtain ⟨aa, rfl, HA, an, af, HB⟩ := hrel
  cases gk with
  | zero => exact absurd HA.out (by simp [impl_Lock.l0])
  | succ k1 =>
   have H := HA.out
   clear HA
   simp only [impl_Lock.l0] at H
   by_cases c3 : aa < (l0.length : Int)
   rotate_left
   ·rw [if_neg c3] at H
    have aj := decide_eq_false c3
    clear c3
    obtain rfl := SI H
    go_wp2
    go_ret
    exact QT (BT HB.out)
   rw [if_pos c3] at H
   have aj := DE c3
   clear c3
   replace H := HI H
   obtain ⟨c4, H⟩ := H
   have ar := DE c4
   clear c4
   replace H := HI H
   obtain ⟨c5, H⟩ := H
   have au := DE c5
   clear c5
   obtain ⟨ai, A6, H⟩ := OB H
   have ag : 0 ≤ (aa : Int) := DT
   have ah : aa < (l0.length : Int) := DT
   obtain ⟨ao, ak, ac, ad⟩ := at_T76 aq.out aa ag ah
   cases ak
   replace ac := BC HB.out ac
   replace ad := BC HB.out ad
   replace ag := ET ag
   replace ah := ET ah
   go_upto_if 16 with (first | ((with_reducible refine G2 16 rfl ?_); refine goesF_ (some 16) rfl rfl Try.func126 (by kernel_rfl) rfl (lb := #[.pointer (some ⟨ae, 0, none⟩)]) #[.agg #[.int .i64 ((rd_T76 l0 aa).f0), .int .i64 ((rd_T76 l0 aa).f1)], .pointer (some ⟨ae, 0, none⟩)] rfl rfl (by (try simp only [List.map_toArray, List.map_cons, List.map_nil]); first | done | rfl) ?_; (with_reducible refine (impl_LockOwner_1.calls ((rd_T76 l0 aa).f0) ((rd_T76 l0 aa).f1) ae ab ai _ ?side1 A6.out).mono ?_); (case side1 => exact BG1 af); rintro e w9 ⟨rfl, hb⟩; refine ⟨_, rfl, ?_⟩; replace af := BV af hb; replace HB := BW HB hb; (try clear hb)))
   by_cases c7 : ai = true
   ·subst c7
    replace H := HT H
    obtain rfl := SI H
    try go_wp2
    go_ret
    exact QT (BT HB.out)
   replace c7 := Bool.eq_false_iff.mpr c7
   subst c7
   replace H := HF H
   have H' := AM_ H
   clear H
   try go_wp2
   go_roundg k1
   case measure => have := an.out; omega
   case rel => exact ⟨(wrap64 (aa + 1)), (by first | rfl | (simp; done) | (simp [*]; done)), H', ⟨by have := an.out; omega⟩, ⟨BH af.out⟩, ⟨BT HB.out⟩⟩

/-! ### impl_LockOwner: function 99 -/
def impl_LockOwner.f (k : Nat) (l0 : List (S76)) (a1 : Int) : Option (Int) := (impl_Lock.f k l0 a1).bind fun aa => (if aa < 0 then (some 0) else (if 0 ≤ aa then (if aa < (l0.length : Int) then (some ((rd_T76 l0 aa).f1)) else (none)) else (none)))
theorem impl_LockOwner.mono : ∀ a0 a1 k, LeO (impl_LockOwner.f k a0 a1) (impl_LockOwner.f (k + 1) a0 a1) := by
 intro a0 a1 k
 unfold impl_LockOwner.f
 repeat' (with_reducible first | exact impl_Lock.mono .. | exact LeO.refl _ | exact LeO.none _ | refine LeO.ite ?_ ?_ | refine LeO.bind ?_ (fun _ => ?_))
theorem impl_LockOwner.calls (k : Nat) (A0 : Option Addr) (c0 : Nat) (l0 : List (S76)) (a1 : Int) (r : Int) (w : World) (al : Kd.C k76 w A0 l0.length l0) (am : l0.length ≤ c0) (h : impl_LockOwner.f k l0 a1 = some r) :
  Calls Try.prog 99 #[.slice A0 l0.length c0, .int .i64 a1] w fun e w' => e = .returned (.int .i64 r) ∧ Below w.heap.size w w' := by
 have ai := AM_ al
 have an := AM_ am
 clear al am
 have HB := AM_ (Below.refl w.heap.size w)
 unfold impl_LockOwner.f at h
 have H := h
 clear h
 obtain ⟨ae, A3, H⟩ := OB H
 by_cases c4 : ae < 0
 ·rw [if_pos c4] at H
  have aj := DE c4
  clear c4
  obtain rfl := SI H
  go_enter Try.func99, Try.ntmps99
  go_wp2_with (first | ((with_reducible refine G2 3 rfl ?_); refine BY 3 #[.int .i64 a1] 3 HB ?_; clear HB; intro ab w5 aa ah HB) | ((with_reducible refine G1 80 rfl ?_); refine GC (some 8) Try.func80 #[.slice A0 l0.length c0, .func (.func 126) #[] #[.pointer (some ⟨ab, 0, none⟩)]] ?_; (with_reducible refine (impl_Lock.calls k _ _ l0 ab a1 ae _ (CC ai HB) an.out ?side3 A3.out).mono ?_); (case side3 => exact BG1 aa); rintro e w6 ⟨rfl, hb⟩; refine ⟨_, rfl, ?_⟩; replace aa := BV aa hb; replace HB := BW HB hb; (try clear hb)))
  go_ret
  exact QT (BT HB.out)
 rw [if_neg c4] at H
 have aj := decide_eq_false c4
 clear c4
 replace H := HI H
 obtain ⟨c7, H⟩ := H
 have ap := DE c7
 clear c7
 replace H := HI H
 obtain ⟨c8, H⟩ := H
 have aq := DE c8
 clear c8
 obtain rfl := SI H
 go_enter Try.func99, Try.ntmps99
 go_wp2_with (first | ((with_reducible refine G2 3 rfl ?_); refine BY 3 #[.int .i64 a1] 3 HB ?_; clear HB; intro ab w9 aa ah HB) | ((with_reducible refine G1 80 rfl ?_); refine GC (some 8) Try.func80 #[.slice A0 l0.length c0, .func (.func 126) #[] #[.pointer (some ⟨ab, 0, none⟩)]] ?_; (with_reducible refine (impl_Lock.calls k _ _ l0 ab a1 ae _ (CC ai HB) an.out ?side3 A3.out).mono ?_); (case side3 => exact BG1 aa); rintro e ar ⟨rfl, hb⟩; refine ⟨_, rfl, ?_⟩; replace aa := BV aa hb; replace HB := BW HB hb; (try clear hb); have af : 0 ≤ (ae : Int) := DT; have ag : ae < (l0.length : Int) := DT; obtain ⟨ao, ak, ac, ad⟩ := at_T76 ai.out ae af ag; cases ak; replace ac := BD HB.out ac; replace ad := BD HB.out ad; replace af := eq_true af; replace ag := eq_true ag))
 go_ret
 exact QT (BT HB.out)

end Go.Proofs.Ytdgknikgfjhohaa.PFnSchemes
