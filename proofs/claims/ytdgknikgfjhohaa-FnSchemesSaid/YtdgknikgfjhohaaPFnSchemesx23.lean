-- Printed by wip/myprint.py.
import Derived.Test.YtdgknikgfjhohaaPFnSchemesx21
namespace Go.Proofs.Ytdgknikgfjhohaa.PFnSchemes
open Go.RowKit Go.Proofs.YtdgknikgfjhohaaW.PrintWords Go.Proofs.YtdgknikgfjhohaaW.PrintLast Go.Proofs.YtdgknikgfjhohaaW.PrintMore
set_option maxHeartbeats 8000000
set_option maxRecDepth 100000
set_option linter.unusedVariables false
set_option linter.unusedSimpArgs false

/-! ### impl_Store_commitCode_1: function 96 -/
def impl_Store_commitCode_1.f (aa : Int) (ad : Int) (ab : List (List (S52))) (ae : Int) (af : Int) (ag : Int) (ac : Int) (ah : Int) (ai : Int) (aj : Int) (ak : List (S116)) (al : List (S103)) : Option (Bool) := (impl_Store_latest.f ab aa).bind fun bt285 => (some (decide (bt285.2.2.1 > ac)))
def impl_Store_commitCode_1.T1 : Bool × List (List Nat × List Nat) := (true, [([], []), ([], []), ([1], [1]), ([0, 2], [0, 2]), ([3], [3]), ([4], [4]), ([5], [5]), ([], []), ([7], [7]), ([6, 8], [6, 8]), ([9, 3, 0, 1, 2, 3, 4, 5, 6, 7, 8, 9], [9])])
def impl_Store_commitCode_1.B1 : List Nat := [0, 0, 2, 7, 15, 31, 63, 0, 128, 511, 1023]
theorem impl_Store_commitCode_1.tab1 : rtab .any (opsOf Try.f96 1) = impl_Store_commitCode_1.T1 := by kernel_rfl
theorem impl_Store_commitCode_1.bits1 : waitsOk impl_Store_commitCode_1.T1.2 impl_Store_commitCode_1.B1 = true := by kernel_rfl
theorem impl_Store_commitCode_1.calls (ae : Int) (am : Int) (aJ : Nat) (aH : Option Addr) (ai : Nat) (ad : List (List (S52))) (ah : Nat) (aw : Int) (ax : Int) (ay : Int) (az : Int) (aA : Int) (aB : Int) (aC : Int) (aD : Option Addr) (aE : Nat) (af : List (S116)) (aF : Option Addr) (aG : Nat) (ag : List (S103)) (r : Bool) (w : World) (hb1 : w.heap[aJ]? = some (.cells #[.slice aH ad.length ai] 34 (0, 0))) (an : Kd.C (Kd.slice 52 k52) w aH ad.length ad) (ao : ad.length ≤ ai) (hb2 : w.heap[ah]? = some (.cells #[.int .i64 aw, .int .i64 ax, .int .i64 ay, .int .i64 az, .int .i64 aA, .int .i64 aB, .int .i64 aC, .slice aD af.length aE, .slice aF ag.length aG] 48 (0, 0))) (ap : Kd.C k116 w aD af.length af) (aq : af.length ≤ aE) (ar : Kd.C k103 w aF ag.length ag) (au : ag.length ≤ aG) (aj : aJ ≠ ah) (h : impl_Store_commitCode_1.f ae am ad aw ax ay az aA aB aC af ag = some r) :
  Calls Try.prog 96 #[.agg #[.int .i64 ae, .int .i64 am], .pointer (some ⟨aJ, 0, none⟩), .pointer (some ⟨ah, 0, none⟩)] w fun e w' => e = .returned (.bool r) ∧ Below w.heap.size w w' := by
 have aS := Try.underlying103
 have be := Try.underlying34
 have ak := AM_ hb1
 clear hb1
 have ab := AM_ hb2
 clear hb2
 have aT := AM_ aj
 have aU := AM_ (Ne.symm aj)
 clear aj
 have aI := AM_ an
 have aV := AM_ ao
 clear an ao
 have aW := AM_ ap
 have aX := AM_ aq
 clear ap aq
 have aY := AM_ ar
 have aZ := AM_ au
 clear ar au
 have HB := AM_ (Below.refl w.heap.size w)
 unfold impl_Store_commitCode_1.f at h
 have H := h
 clear h
 obtain ⟨⟨bf, bg, aQ, bh, bi⟩, A4, H⟩ := OB H
 obtain rfl := SI H
 obtain ⟨q3, q4, q6, q7, adO, adI, cI, eA, ba, _, _, _, aR, _, _⟩ := impl_Store_latest_at aI.out A4.out
 subst eA
 obtain ⟨ji, hji⟩ : ∃ j : Int, j = wrap64 (((rd_L3 ad ae).length : Int) - 1) := ⟨_, rfl⟩
 rw [← hji] at aR
 have bb := AM_ ba
 have aK := AM_ aR
 have HJ := AM_ hji
 have Q3 := AM_ q3
 have Q4 := AM_ q4
 have Q6 := AM_ q6
 have Q7 := AM_ q7
 clear ba aR q3 q4 q6 q7 hji
 go_enter Try.func96, Try.ntmps96
 try go_wp2_with (first | ((with_reducible refine G2 3 rfl ?_); refine BZ 3 #[.int .i64 ae, .int .i64 am] 103 HB ?_; clear HB; intro av w5 hg hb aa bd HB; have aL := NP ak hg; have aM := NQ ak hg; replace ak := BV ak hb; have aN := NP ab hg; have aO := NQ ab hg; replace ab := BV ab hb; clear hb hg))
 replace ak := BD1 ak
 replace ab := BD1 ab
 replace aa := BD1 aa
 replace HB := BD2 HB
 refine start_ (n := 11) (S := fun w' => w'.cell? ⟨aJ, 0, none⟩ = some (.slice (some adO) ad.length ai) ∧ w'.cell? ⟨av, 0, none⟩ = some (.int .i64 ae) ∧ w'.cell? ⟨av, 1, none⟩ = some (.int .i64 am) ∧ w'.cell? ⟨ah, 0, none⟩ = some (.int .i64 aw) ∧ w'.cell? ⟨ah, 1, none⟩ = some (.int .i64 ax) ∧ w'.cell? ⟨ah, 2, none⟩ = some (.int .i64 ay) ∧ w'.cell? ⟨ah, 3, none⟩ = some (.int .i64 az) ∧ w'.cell? ⟨ah, 4, none⟩ = some (.int .i64 aA) ∧ w'.cell? ⟨ah, 5, none⟩ = some (.int .i64 aB) ∧ w'.cell? ⟨ah, 6, none⟩ = some (.int .i64 aC) ∧ w'.cell? ⟨ah, 7, none⟩ = some (.slice aD af.length aE) ∧ w'.cell? ⟨ah, 8, none⟩ = some (.slice aF ag.length aG) ∧ w'.cell? ⟨(adI.add (ji.toNat * 5)).block, (adI.add (ji.toNat * 5)).off + 2, none⟩ = some (.int .i64 aQ)) (ds := []) (lo 0 11) (by kernel_rfl) rfl rfl ⟨bc ak.out 0, bc aa.out 0, bc aa.out 1, bc ab.out 0, bc ab.out 1, bc ab.out 2, bc ab.out 3, bc ab.out 4, bc ab.out 5, bc ab.out 6, bc ab.out 7, bc ab.out 8, (HB.out.cell (World.block_lt_of_cell? w _ aK.out)).trans aK.out⟩ (fun ac => ?_); refine with_tabW impl_Store_commitCode_1.tab1 impl_Store_commitCode_1.bits1 (fun al aP => ?_)
 generalize w5.drew = w6 at ak ab aa HB ac ⊢
 refine PV 1 (some 6) (bs 2 11) al ?_
 refine PV 7 (some 12) (bs 130 11) al ?_
 refine TX 0 (some 5) (bs 131 11) al aP ac ?_
 refine TX 2 (some 7) (bs 135 11) al aP ac ?_
 refine TX 8 (some 13) (bs 391 11) al aP ac ?_
 refine one_ (i := 3) (N := some 8) (bs 399 11) rfl rfl (one_of al.out (by kernel_rfl)) (by decide) (fun K hK => ?_)
 refine GO Try.func97 #[.agg #[.slice (some adO) ad.length ai], .int .i64 ae] ?_
 refine (impl_Store_latest.calls adO adI cI ai ad ae _ Q3.out Q4.out Q6.out Q7.out ?side1).mono ?_
 (case side1 => exact (HB.out.cell (World.block_lt_of_cell? w _ bb.out)).trans bb.out)
 rintro e w7 ⟨he, hb⟩
 rw [← HJ.out] at he
 subst he
 refine ⟨_, rfl, ?_⟩
 replace ak := BV ak hb
 replace ab := BV ab hb
 replace aa := BV aa hb
 replace HB := BW HB hb
 (try clear hb)
 refine hK.out _ _ ⟨bc ak.out 0, bc aa.out 0, bc aa.out 1, bc ab.out 0, bc ab.out 1, bc ab.out 2, bc ab.out 3, bc ab.out 4, bc ab.out 5, bc ab.out 6, bc ab.out 7, bc ab.out 8, (HB.out.cell (World.block_lt_of_cell? w _ aK.out)).trans aK.out⟩ (fun ac => ?_)
 clear hK K
 refine NM 8 ?_
 refine PV 4 (some 9) (bs 415 11) al ?_
 refine PV 5 (some 10) (bs 447 11) al ?_
 refine TX 6 (some 11) (lo 9 11) al aP ac ?_
 iterate 2 refine PS al ?_
 refine done_ (done_of al.out (by kernel_rfl)) ?_
 try go_wp2
 go_ret
 exact QT (BT HB.out)

/-! ### impl_Write_125: function 125 -/
def impl_Write_125.l0 : Nat → List (S103) → Int → Int → List (List (S52)) → Int → Int → Int → Int → Int → Int → Int → List (S116) → List (S103) → Option (Int)
 | 0, _, _, _, _, _, _, _, _, _, _, _, _, _ => none
 | k + 1, x0, x7, x8, aa, ab, ac, ad, ae, af, ag, ah, ai, aj => if x8 < x7 then (if 0 ≤ x8 then (if x8 < (x0.length : Int) then ((impl_Store_commitCode_1.f ((rd_T103 x0 x8).f0) ((rd_T103 x0 x8).f1) aa ab ac ad ae af ag ah ai aj).bind fun ak => (if ak = true then (some x8) else (impl_Write_125.l0 k x0 x7 (wrap64 (x8 + 1)) aa ab ac ad ae af ag ah ai aj))) else (none)) else (none)) else (some (-1))
def impl_Write_125.f (k : Nat) (l0 : List (S103)) (aa : List (List (S52))) (ab : Int) (ac : Int) (ad : Int) (ae : Int) (af : Int) (ag : Int) (ah : Int) (ai : List (S116)) (aj : List (S103)) : Option (Int) := impl_Write_125.l0 k l0 (l0.length : Int) 0 aa ab ac ad ae af ag ah ai aj
theorem impl_Write_125.mono_l : ∀ k, (∀ y0 y1 y2 y3 y4 y5 y6 y7 y8 y9 aa ab ac, LeO (impl_Write_125.l0 k y0 y1 y2 y3 y4 y5 y6 y7 y8 y9 aa ab ac) (impl_Write_125.l0 (k + 1) y0 y1 y2 y3 y4 y5 y6 y7 y8 y9 aa ab ac))
 | 0 => fun _ _ _ _ _ _ _ _ _ _ _ _ _ r h => by simp [impl_Write_125.l0] at h
 | k + 1 => by
  have ad := impl_Write_125.mono_l k
  all_goals intros; unfold impl_Write_125.l0
  all_goals repeat' (with_reducible first | exact ad .. | exact LeO.refl _ | exact LeO.none _ | refine LeO.ite ?_ ?_ | refine LeO.bind ?_ (fun _ => ?_))
theorem impl_Write_125.mono : ∀ a0 a1 a2 a3 a4 a5 a6 a7 a8 a9 aa k, LeO (impl_Write_125.f k a0 a1 a2 a3 a4 a5 a6 a7 a8 a9 aa) (impl_Write_125.f (k + 1) a0 a1 a2 a3 a4 a5 a6 a7 a8 a9 aa) := by
 intro a0 a1 a2 a3 a4 a5 a6 a7 a8 a9 aa k
 have ab := impl_Write_125.mono_l k
 unfold impl_Write_125.f
 repeat' (with_reducible first | exact ab .. | exact LeO.refl _ | exact LeO.none _ | refine LeO.ite ?_ ?_ | refine LeO.bind ?_ (fun _ => ?_))
theorem impl_Write_125.calls (k : Nat) (A0 : Option Addr) (c0 : Nat) (l0 : List (S103)) (au : Nat) (av : Nat) (al : Option Addr) (am : Nat) (aa : List (List (S52))) (ae : Int) (af : Int) (ag : Int) (ah : Int) (ai : Int) (aj : Int) (ak : Int) (an : Option Addr) (ao : Nat) (ab : List (S116)) (ap : Option Addr) (aq : Nat) (ac : List (S103)) (r : Int) (w : World) (aT : Kd.C k103 w A0 l0.length l0) (aU : l0.length ≤ c0) (hb30 : w.heap[au]? = some (.cells #[.slice al aa.length am] 34 (0, 0))) (aw : Kd.C (Kd.slice 52 k52) w al aa.length aa) (ax : aa.length ≤ am) (hb31 : w.heap[av]? = some (.cells #[.int .i64 ae, .int .i64 af, .int .i64 ag, .int .i64 ah, .int .i64 ai, .int .i64 aj, .int .i64 ak, .slice an ab.length ao, .slice ap ac.length aq] 48 (0, 0))) (ay : Kd.C k116 w an ab.length ab) (az : ab.length ≤ ao) (aA : Kd.C k103 w ap ac.length ac) (aB : ac.length ≤ aq) (ar : au ≠ av) (h : impl_Write_125.f k l0 aa ae af ag ah ai aj ak ab ac = some r) :
  Calls Try.prog 125 #[.slice A0 l0.length c0, .func (.func 96) #[] #[.pointer (some ⟨au, 0, none⟩), .pointer (some ⟨av, 0, none⟩)]] w fun e w' => e = .returned (.int .i64 r) ∧ Below w.heap.size w w' := by
 have aV := Try.underlying103
 have aE := AM_ hb30
 clear hb30
 have aF := AM_ hb31
 clear hb31
 have aG := AM_ ar
 have aQ := AM_ (Ne.symm ar)
 clear ar
 have aY := AM_ aT
 have bb := AM_ aU
 clear aT aU
 have aH := AM_ aw
 have aI := AM_ ax
 clear aw ax
 have aJ := AM_ ay
 have aK := AM_ az
 clear ay az
 have aL := AM_ aA
 have aM := AM_ aB
 clear aA aB
 have HB := AM_ (Below.refl w.heap.size w)
 unfold impl_Write_125.f at h
 have H := h
 clear h
 have H' := AM_ H
 clear H
 go_enter Try.func125, Try.ntmps125
 go_wp2
 go_loopg [8] k (fun kq v8 w' => ∃ (ad : Int), v8 = .int .i64 ad ∧ Aside0 (impl_Write_125.l0 kq l0 (l0.length : Int) ad aa ae af ag ah ai aj ak ab ac = some r) ∧ Aside0 (kq ≤ k) ∧ Aside0 (w'.heap[au]? = some (.cells #[(.slice al aa.length am)] 34 (0, 0))) ∧ Aside0 (w'.heap[av]? = some (.cells #[.int .i64 ae, .int .i64 af, .int .i64 ag, .int .i64 ah, .int .i64 ai, .int .i64 aj, .int .i64 ak, (.slice an ab.length ao), (.slice ap ac.length aq)] 48 (0, 0))) ∧ Aside0 (Below w.heap.size w w'))
 case atStart => exact ⟨(0), (by first | rfl | (simp; done) | (simp [*]; done)), H', ⟨Nat.le_refl _⟩, ⟨BH aE.out⟩, ⟨BH aF.out⟩, ⟨BT HB.out⟩⟩
 case round =>
  clear H'
  obtain ⟨ad, rfl, HA, aW, aE, aF, HB⟩ := hrel
  cases gk with
  | zero => exact absurd HA.out (by simp [impl_Write_125.l0])
  | succ k1 =>
   have H := HA.out
   clear HA
   simp only [impl_Write_125.l0] at H
   by_cases c3 : ad < (l0.length : Int)
   rotate_left
   ·rw [if_neg c3] at H
    have aR := decide_eq_false c3
    clear c3
    obtain rfl := SI H
    go_wp2
    go_ret
    exact QT (BT HB.out)
   rw [if_pos c3] at H
   have aR := DE c3
   clear c3
   replace H := HI H
   obtain ⟨c4, H⟩ := H
   have aZ := DE c4
   clear c4
   replace H := HI H
   obtain ⟨c5, H⟩ := H
   have ba := DE c5
   clear c5
   obtain ⟨aP, A6, H⟩ := OB H
   have aN : 0 ≤ (ad : Int) := DT
   have aO : ad < (l0.length : Int) := DT
   obtain ⟨aX, aS, aC, aD⟩ := at_T103 aY.out ad aN aO
   cases aS
   replace aC := BC HB.out aC
   replace aD := BC HB.out aD
   replace aN := ET aN
   replace aO := ET aO
   go_upto_if 16 with (first | ((with_reducible refine G2 16 rfl ?_); refine goesF_ (some 16) rfl rfl Try.func96 (by kernel_rfl) rfl (lb := #[.pointer (some ⟨au, 0, none⟩), .pointer (some ⟨av, 0, none⟩)]) #[.agg #[.int .i64 ((rd_T103 l0 ad).f0), .int .i64 ((rd_T103 l0 ad).f1)], .pointer (some ⟨au, 0, none⟩), .pointer (some ⟨av, 0, none⟩)] rfl rfl (by (try simp only [List.map_toArray, List.map_cons, List.map_nil]); first | done | rfl) ?_; (with_reducible refine (impl_Store_commitCode_1.calls ((rd_T103 l0 ad).f0) ((rd_T103 l0 ad).f1) au al am aa av ae af ag ah ai aj ak an ao ab ap aq ac aP _ ?side1 (CC aH HB) aI.out ?side4 (CC aJ HB) aK.out (CC aL HB) aM.out aG.out A6.out).mono ?_); (case side1 => exact BG1 aE); (case side4 => exact BG1 aF); rintro e w9 ⟨rfl, hb⟩; refine ⟨_, rfl, ?_⟩; replace aE := BV aE hb; replace aF := BV aF hb; replace HB := BW HB hb; (try clear hb)))
   by_cases c7 : aP = true
   ·subst c7
    replace H := HT H
    obtain rfl := SI H
    try go_wp2
    go_ret
    exact QT (BT HB.out)
   replace c7 := Bool.eq_false_iff.mpr c7
   subst c7
   replace H := HF H
   have H' := AM_ H
   clear H
   try go_wp2
   go_roundg k1
   case measure => have := aW.out; omega
   case rel => exact ⟨(wrap64 (ad + 1)), (by first | rfl | (simp; done) | (simp [*]; done)), H', ⟨by have := aW.out; omega⟩, ⟨BH aE.out⟩, ⟨BH aF.out⟩, ⟨BT HB.out⟩⟩

/-! ### impl_Write_95: function 95 -/
def impl_Write_95.f (k : Nat) (l0 : List (S103)) (aa : List (List (S52))) (ab : Int) (ac : Int) (ad : Int) (ae : Int) (af : Int) (ag : Int) (ah : Int) (ai : List (S116)) (aj : List (S103)) : Option (Bool) := (impl_Write_125.f k l0 aa ab ac ad ae af ag ah ai aj).bind fun ak => (some (decide (ak ≥ 0)))
theorem impl_Write_95.mono : ∀ a0 a1 a2 a3 a4 a5 a6 a7 a8 a9 aa k, LeO (impl_Write_95.f k a0 a1 a2 a3 a4 a5 a6 a7 a8 a9 aa) (impl_Write_95.f (k + 1) a0 a1 a2 a3 a4 a5 a6 a7 a8 a9 aa) := by
 intro a0 a1 a2 a3 a4 a5 a6 a7 a8 a9 aa k
 unfold impl_Write_95.f
 repeat' (with_reducible first | exact impl_Write_125.mono .. | exact LeO.refl _ | exact LeO.none _ | refine LeO.ite ?_ ?_ | refine LeO.bind ?_ (fun _ => ?_))
theorem impl_Write_95.calls (k : Nat) (A0 : Option Addr) (c0 : Nat) (l0 : List (S103)) (az : Nat) (aA : Nat) (ae : Option Addr) (af : Nat) (aa : List (List (S52))) (ag : Int) (ah : Int) (ai : Int) (aj : Int) (ak : Int) (al : Int) (am : Int) (an : Option Addr) (ao : Nat) (ab : List (S116)) (ap : Option Addr) (aq : Nat) (ac : List (S103)) (r : Bool) (w : World) (aM : Kd.C k103 w A0 l0.length l0) (aN : l0.length ≤ c0) (hb30 : w.heap[az]? = some (.cells #[.slice ae aa.length af] 34 (0, 0))) (ar : Kd.C (Kd.slice 52 k52) w ae aa.length aa) (au : aa.length ≤ af) (hb31 : w.heap[aA]? = some (.cells #[.int .i64 ag, .int .i64 ah, .int .i64 ai, .int .i64 aj, .int .i64 ak, .int .i64 al, .int .i64 am, .slice an ab.length ao, .slice ap ac.length aq] 48 (0, 0))) (av : Kd.C k116 w an ab.length ab) (aw : ab.length ≤ ao) (ax : Kd.C k103 w ap ac.length ac) (ay : ac.length ≤ aq) (ad : az ≠ aA) (h : impl_Write_95.f k l0 aa ag ah ai aj ak al am ab ac = some r) :
  Calls Try.prog 95 #[.slice A0 l0.length c0, .func (.func 96) #[] #[.pointer (some ⟨az, 0, none⟩), .pointer (some ⟨aA, 0, none⟩)]] w fun e w' => e = .returned (.bool r) ∧ Below w.heap.size w w' := by
 have aI := AM_ hb30
 clear hb30
 have aJ := AM_ hb31
 clear hb31
 have aB := AM_ ad
 have aK := AM_ (Ne.symm ad)
 clear ad
 have aO := AM_ aM
 have aP := AM_ aN
 clear aM aN
 have aC := AM_ ar
 have aD := AM_ au
 clear ar au
 have aE := AM_ av
 have aF := AM_ aw
 clear av aw
 have aG := AM_ ax
 have aH := AM_ ay
 clear ax ay
 have HB := AM_ (Below.refl w.heap.size w)
 unfold impl_Write_95.f at h
 have H := h
 clear h
 obtain ⟨aL, A3, H⟩ := OB H
 obtain rfl := SI H
 go_enter Try.func95, Try.ntmps95
 go_wp2_with (first | ((with_reducible refine G1 125 rfl ?_); refine GC (some 7) Try.func125 #[.slice A0 l0.length c0, .func (.func 96) #[] #[.pointer (some ⟨az, 0, none⟩), .pointer (some ⟨aA, 0, none⟩)]] ?_; (with_reducible refine (impl_Write_125.calls k _ _ l0 az aA ae af aa ag ah ai aj ak al am an ao ab ap aq ac aL _ ?side1 aP.out ?side3 ?side4 aD.out ?side6 ?side7 aF.out ?side9 aH.out aB.out A3.out).mono ?_); (case side1 => repeat (first | exact aO.out | (with_reducible refine Kd.C_alloc ?_ _) | (with_reducible refine Kd.C_drewN ?_ _) | (with_reducible refine Kd.C_drew ?_))); (case side3 => exact BG1 aI); (case side4 => repeat (first | exact aC.out | (with_reducible refine Kd.C_alloc ?_ _) | (with_reducible refine Kd.C_drewN ?_ _) | (with_reducible refine Kd.C_drew ?_))); (case side6 => exact BG1 aJ); (case side7 => repeat (first | exact aE.out | (with_reducible refine Kd.C_alloc ?_ _) | (with_reducible refine Kd.C_drewN ?_ _) | (with_reducible refine Kd.C_drew ?_))); (case side9 => repeat (first | exact aG.out | (with_reducible refine Kd.C_alloc ?_ _) | (with_reducible refine Kd.C_drewN ?_ _) | (with_reducible refine Kd.C_drew ?_))); rintro e w4 ⟨rfl, hb⟩; refine ⟨_, rfl, ?_⟩; replace aI := BV aI hb; replace aJ := BV aJ hb; replace HB := BW HB hb; (try clear hb)))
 go_ret
 exact QT (BT HB.out)

/-! ### impl_Store_commitCode: function 60 -/
def impl_Store_commitCode.f (k : Nat) (ac : List (List (S52))) (ad : Int) (aa : Int) (ae : Int) (af : Int) (ag : Int) (ah : Int) (ai : Int) (aj : List (S116)) (ab : List (S103)) : Option (Int) := (impl_Write_95.f k ab ac ad aa ae af ag ah ai aj ab).bind fun ak => (if ak = true then (if aa = 2 then (some 2) else (if aa = 4 then (some 3) else (some 0))) else (some 0))
theorem impl_Store_commitCode.mono : ∀ a0 a1 a2 a3 a4 a5 a6 a7 a8 a9 k, LeO (impl_Store_commitCode.f k a0 a1 a2 a3 a4 a5 a6 a7 a8 a9) (impl_Store_commitCode.f (k + 1) a0 a1 a2 a3 a4 a5 a6 a7 a8 a9) := by
 intro a0 a1 a2 a3 a4 a5 a6 a7 a8 a9 k
 unfold impl_Store_commitCode.f
 repeat' (with_reducible first | exact impl_Write_95.mono .. | exact LeO.refl _ | exact LeO.none _ | refine LeO.ite ?_ ?_ | refine LeO.bind ?_ (fun _ => ?_))
theorem impl_Store_commitCode.calls (k : Nat) (ak : Option Addr) (al : Nat) (af : List (List (S52))) (am : Int) (aa : Int) (an : Int) (ao : Int) (ap : Int) (aq : Int) (ar : Int) (au : Option Addr) (av : Nat) (ag : List (S116)) (ai : Option Addr) (aj : Nat) (ad : List (S103)) (r : Int) (w : World) (aw : Kd.C (Kd.slice 52 k52) w ak af.length af) (ax : af.length ≤ al) (ay : Kd.C k116 w au ag.length ag) (az : ag.length ≤ av) (aA : Kd.C k103 w ai ad.length ad) (aB : ad.length ≤ aj) (h : impl_Store_commitCode.f k af am aa an ao ap aq ar ag ad = some r) :
  Calls Try.prog 60 #[.agg #[.slice ak af.length al], .agg #[.int .i64 am, .int .i64 aa, .int .i64 an, .int .i64 ao, .int .i64 ap, .int .i64 aq, .int .i64 ar, .slice au ag.length av, .slice ai ad.length aj]] w fun e w' => e = .returned (.int .i64 r) ∧ Below w.heap.size w w' := by
 have bH := Try.underlying34
 have bI := Try.underlying48
 have aH := AM_ aw
 have aI := AM_ ax
 clear aw ax
 have aJ := AM_ ay
 have aK := AM_ az
 clear ay az
 have aC := AM_ aA
 have aD := AM_ aB
 clear aA aB
 have HB := AM_ (Below.refl w.heap.size w)
 unfold impl_Store_commitCode.f at h
 have H := h
 clear h
 obtain ⟨aL, A3, H⟩ := OB H
 go_enter Try.func60, Try.ntmps60
 go_upto_if 9 with (first | ((with_reducible refine G2 2 rfl ?_); refine BY 2 #[.slice ak af.length al] 34 HB ?_; clear HB; intro aE bJ ab bD HB) | ((with_reducible refine G2 3 rfl ?_); refine BZ 3 #[.int .i64 am, .int .i64 aa, .int .i64 an, .int .i64 ao, .int .i64 ap, .int .i64 aq, .int .i64 ar, .slice au ag.length av, .slice ai ad.length aj] 48 HB ?_; clear HB; intro aF bK hg hb ae bE HB; have ac := NP ab hg; have ah := NQ ab hg; replace ab := BV ab hb; clear hb hg; have bF := ah.out; have bG := ac.out; obtain ⟨aN, aO, aP, aQ, aR, aS, aT, aU, aV, aW, aX, aY, aZ, ba, bb, bd, be, bf⟩ := bk9 ae.out) | ((with_reducible refine G1 95 rfl ?_); refine GC (some 8) Try.func95 #[.slice ai ad.length aj, .func (.func 96) #[] #[.pointer (some ⟨aE, 0, none⟩), .pointer (some ⟨aF, 0, none⟩)]] ?_; (with_reducible refine (impl_Write_95.calls k _ _ ad aE aF ak al af am aa an ao ap aq ar au av ag ai aj ad aL _ (CC aC HB) aD.out ?side3 (CC aH HB) aI.out ?side6 (CC aJ HB) aK.out (CC aC HB) aD.out ac.out A3.out).mono ?_); (case side3 => exact BG1 ab); (case side6 => exact BG1 ae); rintro e bL ⟨rfl, hb⟩; refine ⟨_, rfl, ?_⟩; replace ab := BV ab hb; replace ae := BV ae hb; replace HB := BW HB hb; (try clear hb)))
 by_cases c4 : aL = true
 rotate_left
 ·replace c4 := Bool.eq_false_iff.mpr c4
  subst c4
  replace H := HF H
  obtain rfl := SI H
  try go_wp2
  go_ret
  exact QT (BT HB.out)
 subst c4
 replace H := HT H
 obtain ⟨bg, bh, bi, bj, bk, bm, bn, bo, bp, bq, br, bu, bv, bw, bx, bz, bA, bB⟩ := bk9 ae.out
 by_cases c5 : aa = 2
 ·rw [if_pos c5] at H
  have bC : (aa == 2) = true := beq_iff_eq.mpr c5
  have c5b1 : (aa != 2) = false := bne_eq_false_iff_eq.mpr c5
  clear c5
  obtain rfl := SI H
  try go_wp2
  go_ret
  exact QT (BT HB.out)
 rw [if_neg c5] at H
 have bC : (aa == 2) = false := beq_eq_false_iff_ne.mpr c5
 have c5b1 : (aa != 2) = true := bne_iff_ne.mpr c5
 by_cases aG : aa = 4
 rotate_left
 ·rw [if_neg aG] at H
  have aM : (aa == 4) = false := beq_eq_false_iff_ne.mpr aG
  have c12b1 : (aa != 4) = true := bne_iff_ne.mpr aG
  obtain rfl := SI H
  try go_wp2
  go_ret
  exact QT (BT HB.out)
 rw [if_pos aG] at H
 have aM : (aa == 4) = true := beq_iff_eq.mpr aG
 have c12b1 : (aa != 4) = false := bne_eq_false_iff_eq.mpr aG
 clear aG
 obtain rfl := SI H
 try go_wp2
 go_ret
 exact QT (BT HB.out)

/-! ### impl_CommitCode: function 14 -/
def impl_CommitCode.f (k : Nat) (aa : List (List (S52))) (ab : Int) (ac : Int) (ad : Int) (ae : Int) (af : Int) (ag : Int) (ah : Int) (ai : List (S116)) (aj : List (S103)) : Option (Int) := (impl_IsValidStore.f k aa).bind fun ak => (if ak = true then ((impl_Transaction_isActive.f k ab ac ad ae af ag ah ai aj).bind fun al => (if al = true then ((impl_Store_commitCode.f k aa ab ac ad ae af ag ah ai aj).bind fun am => (some am)) else (some 6))) else (some 6))
theorem impl_CommitCode.mono : ∀ a0 a1 a2 a3 a4 a5 a6 a7 a8 a9 k, LeO (impl_CommitCode.f k a0 a1 a2 a3 a4 a5 a6 a7 a8 a9) (impl_CommitCode.f (k + 1) a0 a1 a2 a3 a4 a5 a6 a7 a8 a9) := by
 intro a0 a1 a2 a3 a4 a5 a6 a7 a8 a9 k
 unfold impl_CommitCode.f
 repeat' (with_reducible first | exact impl_IsValidStore.mono .. | exact impl_Store_commitCode.mono .. | exact impl_Transaction_isActive.mono .. | exact LeO.refl _ | exact LeO.none _ | refine LeO.ite ?_ ?_ | refine LeO.bind ?_ (fun _ => ?_))
theorem impl_CommitCode.calls (k : Nat) (ah : Option Addr) (ai : Nat) (ae : List (List (S52))) (aj : Int) (ak : Int) (al : Int) (am : Int) (an : Int) (ao : Int) (ap : Int) (au : Option Addr) (av : Nat) (af : List (S116)) (aw : Option Addr) (ax : Nat) (ag : List (S103)) (r : Int) (w : World) (aC : Kd.C (Kd.slice 52 k52) w ah ae.length ae) (aD : ae.length ≤ ai) (aE : Kd.C k116 w au af.length af) (aF : af.length ≤ av) (aG : Kd.C k103 w aw ag.length ag) (aH : ag.length ≤ ax) (h : impl_CommitCode.f k ae aj ak al am an ao ap af ag = some r) :
  Calls Try.prog 14 #[.agg #[.slice ah ae.length ai], .agg #[.int .i64 aj, .int .i64 ak, .int .i64 al, .int .i64 am, .int .i64 an, .int .i64 ao, .int .i64 ap, .slice au af.length av, .slice aw ag.length ax]] w fun e w' => e = .returned (.int .i64 r) ∧ Below w.heap.size w w' := by
 have cc := Try.underlying34
 have cd := Try.underlying48
 have aq := AM_ aC
 have ar := AM_ aD
 clear aC aD
 have ay := AM_ aE
 have az := AM_ aF
 clear aE aF
 have aA := AM_ aG
 have aB := AM_ aH
 clear aG aH
 have HB := AM_ (Below.refl w.heap.size w)
 unfold impl_CommitCode.f at h
 have H := h
 clear h
 obtain ⟨b1, A3, H⟩ := OB H
 by_cases c4 : b1 = true
 rotate_left
 ·replace c4 := Bool.eq_false_iff.mpr c4
  subst c4
  replace H := HF H
  obtain rfl := SI H
  go_enter Try.func14, Try.ntmps14
  go_wp2_with (first | ((with_reducible refine G2 2 rfl ?_); refine BY 2 #[.slice ah ae.length ai] 34 HB ?_; clear HB; intro aI ce aa aJ HB) | ((with_reducible refine G2 3 rfl ?_); refine BZ 3 #[.int .i64 aj, .int .i64 ak, .int .i64 al, .int .i64 am, .int .i64 an, .int .i64 ao, .int .i64 ap, .slice au af.length av, .slice aw ag.length ax] 48 HB ?_; clear HB; intro aK cf hg hb ab aL HB; have ac := NP aa hg; have ad := NQ aa hg; replace aa := BV aa hb; clear hb hg; have b4 := ac.out; have b6 := ad.out; obtain ⟨aM, aN⟩ := bk1 aa.out) | ((with_reducible refine G1 38 rfl ?_); refine GC (some 6) Try.func38 #[.agg #[.slice ah ae.length ai]] ?_; (with_reducible refine MB (impl_IsValidStore.calls k _ _ ae false _ (CC aq HB) ar.out A3.out) ?_); intro cg hb; replace aa := BV aa hb; replace ab := BV ab hb; replace HB := BW HB hb; (try clear hb)))
  go_ret
  exact QT (BT HB.out)
 subst c4
 replace H := HT H
 obtain ⟨b2, A5, H⟩ := OB H
 by_cases c6 : b2 = true
 rotate_left
 ·replace c6 := Bool.eq_false_iff.mpr c6
  subst c6
  replace H := HF H
  obtain rfl := SI H
  go_enter Try.func14, Try.ntmps14
  go_wp2_with (first | ((with_reducible refine G2 2 rfl ?_); refine BY 2 #[.slice ah ae.length ai] 34 HB ?_; clear HB; intro aI ch aa aJ HB) | ((with_reducible refine G2 3 rfl ?_); refine BZ 3 #[.int .i64 aj, .int .i64 ak, .int .i64 al, .int .i64 am, .int .i64 an, .int .i64 ao, .int .i64 ap, .slice au af.length av, .slice aw ag.length ax] 48 HB ?_; clear HB; intro aK ci hg hb ab aL HB; have ac := NP aa hg; have ad := NQ aa hg; replace aa := BV aa hb; clear hb hg; have b7 := ac.out; have b8 := ad.out; obtain ⟨aO, aP⟩ := bk1 aa.out) | ((with_reducible refine G1 38 rfl ?_); refine GC (some 6) Try.func38 #[.agg #[.slice ah ae.length ai]] ?_; (with_reducible refine MB (impl_IsValidStore.calls k _ _ ae true _ (CC aq HB) ar.out A3.out) ?_); intro cj hb; replace aa := BV aa hb; replace ab := BV ab hb; replace HB := BW HB hb; (try clear hb); obtain ⟨aQ, aR, aS, aT, aU, aV, aW, aX, aY, aZ, ba, bb, bd, be, bf, bg, bh, bi⟩ := bk9 ab.out) | (go_at_call 55; (with_reducible refine (impl_Transaction_isActive.calls k aj ak al am an ao ap _ _ af _ _ ag false _ (CC ay HB) az.out (CC aA HB) aB.out A5.out).mono ?_); rintro e ck ⟨rfl, hb⟩; replace aa := BV aa hb; replace ab := BV ab hb; replace HB := BW HB hb; (try clear hb)))
  go_ret
  exact QT (BT HB.out)
 subst c6
 replace H := HT H
 obtain ⟨b3, A7, H⟩ := OB H
 obtain rfl := SI H
 go_enter Try.func14, Try.ntmps14
 go_wp2_with (first | ((with_reducible refine G2 2 rfl ?_); refine BY 2 #[.slice ah ae.length ai] 34 HB ?_; clear HB; intro aI w8 aa aJ HB) | ((with_reducible refine G2 3 rfl ?_); refine BZ 3 #[.int .i64 aj, .int .i64 ak, .int .i64 al, .int .i64 am, .int .i64 an, .int .i64 ao, .int .i64 ap, .slice au af.length av, .slice aw ag.length ax] 48 HB ?_; clear HB; intro aK w9 hg hb ab aL HB; have ac := NP aa hg; have ad := NQ aa hg; replace aa := BV aa hb; clear hb hg; have ca := ac.out; have cb := ad.out; obtain ⟨bj, bk⟩ := bk1 aa.out) | ((with_reducible refine G1 38 rfl ?_); refine GC (some 6) Try.func38 #[.agg #[.slice ah ae.length ai]] ?_; (with_reducible refine MB (impl_IsValidStore.calls k _ _ ae true _ (CC aq HB) ar.out A3.out) ?_); intro cl hb; replace aa := BV aa hb; replace ab := BV ab hb; replace HB := BW HB hb; (try clear hb); obtain ⟨bm, bn, bo, bp, bq, br, bu, bv, bw, bx, bz, bA, bB, bC, bD, bE, bF, bG⟩ := bk9 ab.out) | (go_at_call 55; (with_reducible refine (impl_Transaction_isActive.calls k aj ak al am an ao ap _ _ af _ _ ag true _ (CC ay HB) az.out (CC aA HB) aB.out A5.out).mono ?_); rintro e cm ⟨rfl, hb⟩; replace aa := BV aa hb; replace ab := BV ab hb; replace HB := BW HB hb; (try clear hb); obtain ⟨bH, bI⟩ := bk1 aa.out; obtain ⟨bJ, bK, bL, bM, bN, bO, bP, bQ, bR, bS, bT, bU, bV, bW, bX, bY, bZ, b0⟩ := bk9 ab.out) | ((with_reducible refine G1 60 rfl ?_); refine GC (some 15) Try.func60 #[.agg #[.slice ah ae.length ai], .agg #[.int .i64 aj, .int .i64 ak, .int .i64 al, .int .i64 am, .int .i64 an, .int .i64 ao, .int .i64 ap, .slice au af.length av, .slice aw ag.length ax]] ?_; (with_reducible refine MB (impl_Store_commitCode.calls k _ _ ae aj ak al am an ao ap _ _ af _ _ ag b3 _ (CC aq HB) ar.out (CC ay HB) az.out (CC aA HB) aB.out A7.out) ?_); intro cn hb; replace aa := BV aa hb; replace ab := BV ab hb; replace HB := BW HB hb; (try clear hb)))
 go_ret
 exact QT (BT HB.out)

/-! ### spec_CommitCode: function 15 -/
def spec_CommitCode.l0 : Nat → Int → List (List (S52)) → Int → Int → Int → Int → Int → Int → Int → List (S116) → List (S103) → Option (Int)
 | 0, _, _, _, _, _, _, _, _, _, _, _ => none
 | k + 1, x5, ab, ae, ac, af, ad, ag, ah, ai, aj, aa => if x5 < (aa.length : Int) then (if 0 ≤ x5 then (if 0 ≤ ((rd_T103 aa x5).f0) then (if ((rd_T103 aa x5).f0) < (ab.length : Int) then ((spec_LatestVersion.f k (rd_L3 ab ((rd_T103 aa x5).f0))).bind fun bt712 => (if bt712.2.2.1 ≤ ad then (spec_CommitCode.l0 k (wrap64 (x5 + 1)) ab ae ac af ad ag ah ai aj aa) else (if ac = 2 then (some 2) else (if ac = 4 then (some 3) else (spec_CommitCode.l0 k (wrap64 (x5 + 1)) ab ae ac af ad ag ah ai aj aa))))) else (none)) else (none)) else (none)) else (some 0)
def spec_CommitCode.f (k : Nat) (aa : List (List (S52))) (ab : Int) (ac : Int) (ad : Int) (ae : Int) (af : Int) (ag : Int) (ah : Int) (ai : List (S116)) (aj : List (S103)) : Option (Int) := (spec_l12Good.f k aa ab ac ad ae af ag ah ai aj 0).bind fun ak => (if ak = true then (spec_CommitCode.l0 k 0 aa ab ac ad ae af ag ah ai aj) else (some 6))
theorem spec_CommitCode.mono_l : ∀ k, (∀ y0 y1 y2 y3 y4 y5 y6 y7 y8 y9 aa, LeO (spec_CommitCode.l0 k y0 y1 y2 y3 y4 y5 y6 y7 y8 y9 aa) (spec_CommitCode.l0 (k + 1) y0 y1 y2 y3 y4 y5 y6 y7 y8 y9 aa))
 | 0 => fun _ _ _ _ _ _ _ _ _ _ _ r h => by simp [spec_CommitCode.l0] at h
 | k + 1 => by
  have ab := spec_CommitCode.mono_l k
  all_goals intros; unfold spec_CommitCode.l0
  all_goals repeat' (with_reducible first | exact ab .. | exact spec_LatestVersion.mono .. | exact spec_l12Good.mono .. | exact LeO.refl _ | exact LeO.none _ | refine LeO.ite ?_ ?_ | refine LeO.bind ?_ (fun _ => ?_))
theorem spec_CommitCode.mono : ∀ a0 a1 a2 a3 a4 a5 a6 a7 a8 a9 k, LeO (spec_CommitCode.f k a0 a1 a2 a3 a4 a5 a6 a7 a8 a9) (spec_CommitCode.f (k + 1) a0 a1 a2 a3 a4 a5 a6 a7 a8 a9) := by
 intro a0 a1 a2 a3 a4 a5 a6 a7 a8 a9 k
 have aa := spec_CommitCode.mono_l k
 unfold spec_CommitCode.f
 repeat' (with_reducible first | exact aa .. | exact spec_LatestVersion.mono .. | exact spec_l12Good.mono .. | exact LeO.refl _ | exact LeO.none _ | refine LeO.ite ?_ ?_ | refine LeO.bind ?_ (fun _ => ?_))
def spec_CommitCode.T6 : Bool × List (List Nat × List Nat) := (true, [([], []), ([0], [0]), ([], []), ([2], [2]), ([], []), ([3, 4], [3, 4]), ([5], [5]), ([6], [6]), ([1, 7], [1, 7]), ([8], [8]), ([9], [9]), ([10], [10]), ([], []), ([12], [12]), ([11, 13], [11, 13])])
def spec_CommitCode.B6 : List Nat := [0, 1, 0, 4, 0, 28, 60, 124, 255, 511, 1023, 2047, 0, 4096, 16383]
theorem spec_CommitCode.tab6 : rtab .any (opsOf Try.f15 6) = spec_CommitCode.T6 := by kernel_rfl
theorem spec_CommitCode.bits6 : waitsOk spec_CommitCode.T6.2 spec_CommitCode.B6 = true := by kernel_rfl
theorem spec_CommitCode.calls (k : Nat) (aW : Option Addr) (aN : Nat) (ak : List (List (S52))) (aH : Int) (ay : Int) (aI : Int) (aG : Int) (aJ : Int) (aK : Int) (aL : Int) (aO : Option Addr) (aP : Nat) (aF : List (S116)) (aX : Option Addr) (aQ : Nat) (ae : List (S103)) (r : Int) (w : World) (be : Kd.C (Kd.slice 52 k52) w aW ak.length ak) (bf : ak.length ≤ aN) (bg : Kd.C k116 w aO aF.length aF) (bh : aF.length ≤ aP) (bi : Kd.C k103 w aX ae.length ae) (bj : ae.length ≤ aQ) (h : spec_CommitCode.f k ak aH ay aI aG aJ aK aL aF ae = some r) :
  Calls Try.prog 15 #[.agg #[.slice aW ak.length aN], .agg #[.int .i64 aH, .int .i64 ay, .int .i64 aI, .int .i64 aG, .int .i64 aJ, .int .i64 aK, .int .i64 aL, .slice aO aF.length aP, .slice aX ae.length aQ]] w fun e w' => e = .returned (.int .i64 r) ∧ Below w.heap.size w w' := by
 have eL := Try.underlying34
 have eM := Try.underlying48
 have aR := AM_ be
 have bM := AM_ bf
 clear be bf
 have bN := AM_ bg
 have bO := AM_ bh
 clear bg bh
 have aS := AM_ bi
 have bP := AM_ bj
 clear bi bj
 have HB := AM_ (Below.refl w.heap.size w)
 unfold spec_CommitCode.f at h
 have H := h
 clear h
 obtain ⟨bQ, A3, H⟩ := OB H
 go_enter Try.func15, Try.ntmps15
 go_upto_if 9 with (first | ((with_reducible refine G2 2 rfl ?_); refine BY 2 #[.slice aW ak.length aN] 34 HB ?_; clear HB; intro aT w5 ac es HB) | ((with_reducible refine G2 3 rfl ?_); refine BZ 3 #[.int .i64 aH, .int .i64 ay, .int .i64 aI, .int .i64 aG, .int .i64 aJ, .int .i64 aK, .int .i64 aL, .slice aO aF.length aP, .slice aX ae.length aQ] 48 HB ?_; clear HB; intro ad w6 hg hb aa et HB; have au := NP ac hg; have av := NQ ac hg; replace ac := BV ac hb; clear hb hg; have eN := au.out; have eO := av.out; obtain ⟨bk, bm⟩ := bk1 ac.out; obtain ⟨bn, bo, bp, bq, br, bu, bv, bw, bx, bz, bA, bB, bC, bD, bE, bF, bG, bH⟩ := bk9 aa.out) | ((with_reducible refine G1 58 rfl ?_); refine GC (some 8) Try.func58 #[.agg #[.slice aW ak.length aN], .agg #[.int .i64 aH, .int .i64 ay, .int .i64 aI, .int .i64 aG, .int .i64 aJ, .int .i64 aK, .int .i64 aL, .slice aO aF.length aP, .slice aX ae.length aQ], .int .i64 0] ?_; (with_reducible refine MB (spec_l12Good.calls k _ _ ak aH ay aI aG aJ aK aL _ _ aF _ _ ae 0 bQ _ (CC aR HB) bM.out (CC bN HB) bO.out (CC aS HB) bP.out A3.out) ?_); intro eP hb; replace ac := BV ac hb; replace aa := BV aa hb; replace HB := BW HB hb; (try clear hb)))
 by_cases c4 : bQ = true
 rotate_left
 ·replace c4 := Bool.eq_false_iff.mpr c4
  subst c4
  replace H := HF H
  obtain rfl := SI H
  try go_wp2
  go_ret
  exact QT (BT HB.out)
 subst c4
 replace H := HT H
 have H' := AM_ H
 clear H
 try go_wp2
 go_loopg [5] k (fun kq v5 w' => ∃ (ab : Int), v5 = .int .i64 ab ∧ Aside0 (spec_CommitCode.l0 kq ab ak aH ay aI aG aJ aK aL aF ae = some r) ∧ Aside0 (kq ≤ k) ∧ Aside0 (w'.heap[aT]? = some (.cells #[(.slice aW ak.length aN)] 34 (0, 0))) ∧ Aside0 (w'.heap[ad]? = some (.cells #[.int .i64 aH, .int .i64 ay, .int .i64 aI, .int .i64 aG, .int .i64 aJ, .int .i64 aK, .int .i64 aL, (.slice aO aF.length aP), (.slice aX ae.length aQ)] 48 (0, 0))) ∧ Aside0 (Below w.heap.size w w'))
 case atStart => exact ⟨(0), (by first | rfl | (simp; done) | (simp [*]; done)), H', ⟨Nat.le_refl _⟩, ⟨BH ac.out⟩, ⟨BH aa.out⟩, ⟨BT HB.out⟩⟩
 case round =>
  clear H'
  try clear c4
  try clear bk
  try clear bn bo bp bq br bu bv bw bx
  try clear bm
  try clear bz bA bB bC bD bE bF bG bH
  obtain ⟨ab, rfl, HA, bV, ac, aa, HB⟩ := hrel
  cases gk with
  | zero => exact absurd HA.out (by simp [spec_CommitCode.l0])
  | succ k1 =>
   have H := HA.out
   clear HA
   simp only [spec_CommitCode.l0] at H
   by_cases bK : ab < (ae.length : Int)
   rotate_left
   ·rw [if_neg bK] at H
    have bR := decide_eq_false bK
    clear bK
    obtain rfl := SI H
    have eu := av.out
    have ev := au.out
    obtain ⟨bW, bX, bY, bZ, b0, b1, b2, b3, b4, b6, b7, b8, ca, cb, cc, cd, ce, cf⟩ := bk9 aa.out
    go_wp2
    go_ret
    exact QT (BT HB.out)
   rw [if_pos bK] at H
   have bR := DE bK
   clear bK
   replace H := HI H
   obtain ⟨ew, H⟩ := H
   have ex := DE ew
   clear ew
   replace H := HI H
   obtain ⟨ey, H⟩ := H
   have ez := DE ey
   clear ey
   replace H := HI H
   obtain ⟨eB, H⟩ := H
   have eC := DE eB
   clear eB
   obtain ⟨⟨aZ, ba, aY, bb, bd⟩, cg, H⟩ := OB H
   by_cases bL : aY ≤ aG
   ·rw [if_pos bL] at H
    have bS := DE bL
    clear bL
    have H' := AM_ H
    clear H
    have eD := av.out
    have eE := au.out
    obtain ⟨ch, ci, cj, ck, cl, cm, cn, co, cp, cq, cr, cs, ct, cu, cv, cw, cx, cy⟩ := bk9 aa.out
    try go_wp2
    replace ac := BD1 ac
    replace aa := BD1 aa
    replace HB := BD2 HB
    have aB : 0 ≤ (ab : Int) := DT
    have aC : ab < (ae.length : Int) := DT
    obtain ⟨al, aU, af, ag⟩ := at_T103 aS.out ab aB aC
    have am := ag
    have an := af
    cases aU
    replace af := BC HB.out af
    replace ag := BC HB.out ag
    replace aB := ET aB
    replace aC := ET aC
    have aD : 0 ≤ (((rd_T103 ae ab).f0) : Int) := DT
    have aE : ((rd_T103 ae ab).f0) < (ak.length : Int) := DT
    obtain ⟨aA, aw, ax, aV, ah, ao, ap⟩ := at_L3 aR.out ((rd_T103 ae ab).f0) aD aE
    have aq := ah
    cases aV
    replace ah := BC HB.out ah
    have ar := AM_ ap
    have az := AM_ ao
    clear ap ao
    replace aD := ET aD
    replace aE := ET aE
    refine start_ (n := 15) (S := fun w' => w'.cell? ⟨aT, 0, none⟩ = some (.slice (some aA) ak.length aN) ∧ w'.cell? ⟨ad, 0, none⟩ = some (.int .i64 aH) ∧ w'.cell? ⟨ad, 1, none⟩ = some (.int .i64 ay) ∧ w'.cell? ⟨ad, 2, none⟩ = some (.int .i64 aI) ∧ w'.cell? ⟨ad, 3, none⟩ = some (.int .i64 aG) ∧ w'.cell? ⟨ad, 4, none⟩ = some (.int .i64 aJ) ∧ w'.cell? ⟨ad, 5, none⟩ = some (.int .i64 aK) ∧ w'.cell? ⟨ad, 6, none⟩ = some (.int .i64 aL) ∧ w'.cell? ⟨ad, 7, none⟩ = some (.slice aO aF.length aP) ∧ w'.cell? ⟨ad, 8, none⟩ = some (.slice (some al) ae.length aQ) ∧ w'.cell? (al.add ((ab).toNat * 2)) = some (.int .i64 ((rd_T103 ae ab).f0)) ∧ w'.cell? ⟨(al.add ((ab).toNat * 2)).block, (al.add ((ab).toNat * 2)).off + 1, none⟩ = some (.int .i64 ((rd_T103 ae ab).f1)) ∧ w'.cell? (aA.add (((rd_T103 ae ab).f0)).toNat) = some (.slice aw (rd_L3 ak ((rd_T103 ae ab).f0)).length ax)) (ds := []) (lo 0 15) (by kernel_rfl) rfl rfl ⟨bc ac.out 0, bc aa.out 0, bc aa.out 1, bc aa.out 2, bc aa.out 3, bc aa.out 4, bc aa.out 5, bc aa.out 6, bc aa.out 7, bc aa.out 8, (BD HB.out an), (BD HB.out am), (BD HB.out aq)⟩ (fun ai => ?_); refine with_tabW spec_CommitCode.tab6 spec_CommitCode.bits6 (fun aj aM => ?_)
    generalize wr.drew = eQ at ac aa HB ar af ag ah ai ⊢
    refine PS aj ?_
    refine PV 2 (some 19) (bs 5 15) aj ?_
    refine PV 4 (some 21) (bs 21 15) aj ?_
    refine PV 12 (some 29) (bs 4117 15) aj ?_
    refine TX 1 (some 18) (bs 4119 15) aj aM ai ?_
    refine TX 3 (some 20) (bs 4127 15) aj aM ai ?_
    refine PV 5 (some 22) (bs 4159 15) aj ?_
    refine PV 6 (some 23) (bs 4223 15) aj ?_
    refine TX 7 (some 24) (bs 4351 15) aj aM ai ?_
    refine PV 8 (some 25) (bs 4607 15) aj ?_
    refine TX 9 (some 26) (bs 5119 15) aj aM ai ?_
    refine TX 13 (some 30) (bs 13311 15) aj aM ai ?_
    refine one_ (i := 10) (N := some 27) (bs 14335 15) rfl rfl (one_of aj.out (by kernel_rfl)) (by decide) (fun K hK => ?_)
    refine GO Try.func21 #[.slice aw (rd_L3 ak ((rd_T103 ae ab).f0)).length ax] ?_
    with_reducible refine MB (spec_LatestVersion.calls k1 _ _ (rd_L3 ak ((rd_T103 ae ab).f0)) aZ ba aY bb bd _ (CC ar HB) az.out cg.out) ?_
    intro eR hb
    replace ac := BV ac hb
    replace aa := BV aa hb
    replace HB := BW HB hb
    (try clear hb)
    refine hK.out _ _ ⟨bc ac.out 0, bc aa.out 0, bc aa.out 1, bc aa.out 2, bc aa.out 3, bc aa.out 4, bc aa.out 5, bc aa.out 6, bc aa.out 7, bc aa.out 8, (BD HB.out an), (BD HB.out am), (BD HB.out aq)⟩ (fun ai => ?_)
    clear hK K
    refine NM 27 ?_
    refine PV (hy := by intro w'; go_simp; rfl) 11 (some 28) (lo 14 15) aj ?_
    refine PS aj ?_
    refine done_ (done_of aj.out (by kernel_rfl)) ?_
    try go_wp2
    go_roundg k1
    case measure => have := bV.out; omega
    case rel => exact ⟨(wrap64 (ab + 1)), (by first | rfl | (simp; done) | (simp [*]; done)), H', ⟨by have := bV.out; omega⟩, ⟨BH ac.out⟩, ⟨BH aa.out⟩, ⟨BT HB.out⟩⟩
   rw [if_neg bL] at H
   have bS := decide_eq_false bL
   clear bL
   by_cases bI : ay = 2
   ·rw [if_pos bI] at H
    have bT : (ay == 2) = true := beq_iff_eq.mpr bI
    have c21b1 : (ay != 2) = false := bne_eq_false_iff_eq.mpr bI
    clear bI
    obtain rfl := SI H
    have eF := av.out
    have eG := au.out
    obtain ⟨cz, cA, cB, cC, cD, cE, cF, cG, cH, cJ, cK, cL, cM, cN, cO, cP, cQ, cR⟩ := bk9 aa.out
    try go_wp2
    replace ac := BD1 ac
    replace aa := BD1 aa
    replace HB := BD2 HB
    have aB : 0 ≤ (ab : Int) := DT
    have aC : ab < (ae.length : Int) := DT
    obtain ⟨al, aU, af, ag⟩ := at_T103 aS.out ab aB aC
    have am := ag
    have an := af
    cases aU
    replace af := BC HB.out af
    replace ag := BC HB.out ag
    replace aB := ET aB
    replace aC := ET aC
    have aD : 0 ≤ (((rd_T103 ae ab).f0) : Int) := DT
    have aE : ((rd_T103 ae ab).f0) < (ak.length : Int) := DT
    obtain ⟨aA, aw, ax, aV, ah, ao, ap⟩ := at_L3 aR.out ((rd_T103 ae ab).f0) aD aE
    have aq := ah
    cases aV
    replace ah := BC HB.out ah
    have ar := AM_ ap
    have az := AM_ ao
    clear ap ao
    replace aD := ET aD
    replace aE := ET aE
    refine start_ (n := 15) (S := fun w' => w'.cell? ⟨aT, 0, none⟩ = some (.slice (some aA) ak.length aN) ∧ w'.cell? ⟨ad, 0, none⟩ = some (.int .i64 aH) ∧ w'.cell? ⟨ad, 1, none⟩ = some (.int .i64 ay) ∧ w'.cell? ⟨ad, 2, none⟩ = some (.int .i64 aI) ∧ w'.cell? ⟨ad, 3, none⟩ = some (.int .i64 aG) ∧ w'.cell? ⟨ad, 4, none⟩ = some (.int .i64 aJ) ∧ w'.cell? ⟨ad, 5, none⟩ = some (.int .i64 aK) ∧ w'.cell? ⟨ad, 6, none⟩ = some (.int .i64 aL) ∧ w'.cell? ⟨ad, 7, none⟩ = some (.slice aO aF.length aP) ∧ w'.cell? ⟨ad, 8, none⟩ = some (.slice (some al) ae.length aQ) ∧ w'.cell? (al.add ((ab).toNat * 2)) = some (.int .i64 ((rd_T103 ae ab).f0)) ∧ w'.cell? ⟨(al.add ((ab).toNat * 2)).block, (al.add ((ab).toNat * 2)).off + 1, none⟩ = some (.int .i64 ((rd_T103 ae ab).f1)) ∧ w'.cell? (aA.add (((rd_T103 ae ab).f0)).toNat) = some (.slice aw (rd_L3 ak ((rd_T103 ae ab).f0)).length ax)) (ds := []) (lo 0 15) (by kernel_rfl) rfl rfl ⟨bc ac.out 0, bc aa.out 0, bc aa.out 1, bc aa.out 2, bc aa.out 3, bc aa.out 4, bc aa.out 5, bc aa.out 6, bc aa.out 7, bc aa.out 8, (BD HB.out an), (BD HB.out am), (BD HB.out aq)⟩ (fun ai => ?_); refine with_tabW spec_CommitCode.tab6 spec_CommitCode.bits6 (fun aj aM => ?_)
    generalize wr.drew = eS at ac aa HB ar af ag ah ai ⊢
    refine PS aj ?_
    refine PV 2 (some 19) (bs 5 15) aj ?_
    refine PV 4 (some 21) (bs 21 15) aj ?_
    refine PV 12 (some 29) (bs 4117 15) aj ?_
    refine TX 1 (some 18) (bs 4119 15) aj aM ai ?_
    refine TX 3 (some 20) (bs 4127 15) aj aM ai ?_
    refine PV 5 (some 22) (bs 4159 15) aj ?_
    refine PV 6 (some 23) (bs 4223 15) aj ?_
    refine TX 7 (some 24) (bs 4351 15) aj aM ai ?_
    refine PV 8 (some 25) (bs 4607 15) aj ?_
    refine TX 9 (some 26) (bs 5119 15) aj aM ai ?_
    refine TX 13 (some 30) (bs 13311 15) aj aM ai ?_
    refine one_ (i := 10) (N := some 27) (bs 14335 15) rfl rfl (one_of aj.out (by kernel_rfl)) (by decide) (fun K hK => ?_)
    refine GO Try.func21 #[.slice aw (rd_L3 ak ((rd_T103 ae ab).f0)).length ax] ?_
    with_reducible refine MB (spec_LatestVersion.calls k1 _ _ (rd_L3 ak ((rd_T103 ae ab).f0)) aZ ba aY bb bd _ (CC ar HB) az.out cg.out) ?_
    intro eT hb
    replace ac := BV ac hb
    replace aa := BV aa hb
    replace HB := BW HB hb
    (try clear hb)
    refine hK.out _ _ ⟨bc ac.out 0, bc aa.out 0, bc aa.out 1, bc aa.out 2, bc aa.out 3, bc aa.out 4, bc aa.out 5, bc aa.out 6, bc aa.out 7, bc aa.out 8, (BD HB.out an), (BD HB.out am), (BD HB.out aq)⟩ (fun ai => ?_)
    clear hK K
    refine NM 27 ?_
    refine PV (hy := by intro w'; go_simp; rfl) 11 (some 28) (lo 14 15) aj ?_
    refine PS aj ?_
    refine done_ (done_of aj.out (by kernel_rfl)) ?_
    obtain ⟨cS, cT, cU, cV, cW, cX, cY, cZ, c1, c2, c8, c9, da, db, dc, dd, de, df⟩ := bk9 aa.out
    try go_wp2
    go_ret
    exact QT (BT HB.out)
   rw [if_neg bI] at H
   have bT : (ay == 2) = false := beq_eq_false_iff_ne.mpr bI
   have c21b1 : (ay != 2) = true := bne_iff_ne.mpr bI
   by_cases bJ : ay = 4
   ·rw [if_pos bJ] at H
    have bU : (ay == 4) = true := beq_iff_eq.mpr bJ
    have c27b1 : (ay != 4) = false := bne_eq_false_iff_eq.mpr bJ
    clear bJ
    obtain rfl := SI H
    have eH := av.out
    have eI := au.out
    obtain ⟨dg, dh, di, dj, dk, dl, dm, dn, dp, dq, dr, dt, du, dv, dw, dx, dy, dz⟩ := bk9 aa.out
    try go_wp2
    replace ac := BD1 ac
    replace aa := BD1 aa
    replace HB := BD2 HB
    have aB : 0 ≤ (ab : Int) := DT
    have aC : ab < (ae.length : Int) := DT
    obtain ⟨al, aU, af, ag⟩ := at_T103 aS.out ab aB aC
    have am := ag
    have an := af
    cases aU
    replace af := BC HB.out af
    replace ag := BC HB.out ag
    replace aB := ET aB
    replace aC := ET aC
    have aD : 0 ≤ (((rd_T103 ae ab).f0) : Int) := DT
    have aE : ((rd_T103 ae ab).f0) < (ak.length : Int) := DT
    obtain ⟨aA, aw, ax, aV, ah, ao, ap⟩ := at_L3 aR.out ((rd_T103 ae ab).f0) aD aE
    have aq := ah
    cases aV
    replace ah := BC HB.out ah
    have ar := AM_ ap
    have az := AM_ ao
    clear ap ao
    replace aD := ET aD
    replace aE := ET aE
    refine start_ (n := 15) (S := fun w' => w'.cell? ⟨aT, 0, none⟩ = some (.slice (some aA) ak.length aN) ∧ w'.cell? ⟨ad, 0, none⟩ = some (.int .i64 aH) ∧ w'.cell? ⟨ad, 1, none⟩ = some (.int .i64 ay) ∧ w'.cell? ⟨ad, 2, none⟩ = some (.int .i64 aI) ∧ w'.cell? ⟨ad, 3, none⟩ = some (.int .i64 aG) ∧ w'.cell? ⟨ad, 4, none⟩ = some (.int .i64 aJ) ∧ w'.cell? ⟨ad, 5, none⟩ = some (.int .i64 aK) ∧ w'.cell? ⟨ad, 6, none⟩ = some (.int .i64 aL) ∧ w'.cell? ⟨ad, 7, none⟩ = some (.slice aO aF.length aP) ∧ w'.cell? ⟨ad, 8, none⟩ = some (.slice (some al) ae.length aQ) ∧ w'.cell? (al.add ((ab).toNat * 2)) = some (.int .i64 ((rd_T103 ae ab).f0)) ∧ w'.cell? ⟨(al.add ((ab).toNat * 2)).block, (al.add ((ab).toNat * 2)).off + 1, none⟩ = some (.int .i64 ((rd_T103 ae ab).f1)) ∧ w'.cell? (aA.add (((rd_T103 ae ab).f0)).toNat) = some (.slice aw (rd_L3 ak ((rd_T103 ae ab).f0)).length ax)) (ds := []) (lo 0 15) (by kernel_rfl) rfl rfl ⟨bc ac.out 0, bc aa.out 0, bc aa.out 1, bc aa.out 2, bc aa.out 3, bc aa.out 4, bc aa.out 5, bc aa.out 6, bc aa.out 7, bc aa.out 8, (BD HB.out an), (BD HB.out am), (BD HB.out aq)⟩ (fun ai => ?_); refine with_tabW spec_CommitCode.tab6 spec_CommitCode.bits6 (fun aj aM => ?_)
    generalize wr.drew = eU at ac aa HB ar af ag ah ai ⊢
    refine PS aj ?_
    refine PV 2 (some 19) (bs 5 15) aj ?_
    refine PV 4 (some 21) (bs 21 15) aj ?_
    refine PV 12 (some 29) (bs 4117 15) aj ?_
    refine TX 1 (some 18) (bs 4119 15) aj aM ai ?_
    refine TX 3 (some 20) (bs 4127 15) aj aM ai ?_
    refine PV 5 (some 22) (bs 4159 15) aj ?_
    refine PV 6 (some 23) (bs 4223 15) aj ?_
    refine TX 7 (some 24) (bs 4351 15) aj aM ai ?_
    refine PV 8 (some 25) (bs 4607 15) aj ?_
    refine TX 9 (some 26) (bs 5119 15) aj aM ai ?_
    refine TX 13 (some 30) (bs 13311 15) aj aM ai ?_
    refine one_ (i := 10) (N := some 27) (bs 14335 15) rfl rfl (one_of aj.out (by kernel_rfl)) (by decide) (fun K hK => ?_)
    refine GO Try.func21 #[.slice aw (rd_L3 ak ((rd_T103 ae ab).f0)).length ax] ?_
    with_reducible refine MB (spec_LatestVersion.calls k1 _ _ (rd_L3 ak ((rd_T103 ae ab).f0)) aZ ba aY bb bd _ (CC ar HB) az.out cg.out) ?_
    intro eV hb
    replace ac := BV ac hb
    replace aa := BV aa hb
    replace HB := BW HB hb
    (try clear hb)
    refine hK.out _ _ ⟨bc ac.out 0, bc aa.out 0, bc aa.out 1, bc aa.out 2, bc aa.out 3, bc aa.out 4, bc aa.out 5, bc aa.out 6, bc aa.out 7, bc aa.out 8, (BD HB.out an), (BD HB.out am), (BD HB.out aq)⟩ (fun ai => ?_)
    clear hK K
    refine NM 27 ?_
    refine PV (hy := by intro w'; go_simp; rfl) 11 (some 28) (lo 14 15) aj ?_
    refine PS aj ?_
    refine done_ (done_of aj.out (by kernel_rfl)) ?_
    obtain ⟨dA, dB, dC, dD, dE, dF, dG, dH, dI, dJ, dK, dL, dM, dN, dO, dP, dQ, dR⟩ := bk9 aa.out
    try go_wp2
    go_ret
    exact QT (BT HB.out)
   rw [if_neg bJ] at H
   have bU : (ay == 4) = false := beq_eq_false_iff_ne.mpr bJ
   have c27b1 : (ay != 4) = true := bne_iff_ne.mpr bJ
   have H' := AM_ H
   clear H
   have eJ := av.out
   have eK := au.out
   obtain ⟨dS, dT, dU, dV, dW, dX, dY, dZ, d0, d1, d2, d3, d4, d5, d6, d7, d8, d9⟩ := bk9 aa.out
   try go_wp2
   replace ac := BD1 ac
   replace aa := BD1 aa
   replace HB := BD2 HB
   have aB : 0 ≤ (ab : Int) := DT
   have aC : ab < (ae.length : Int) := DT
   obtain ⟨al, aU, af, ag⟩ := at_T103 aS.out ab aB aC
   have am := ag
   have an := af
   cases aU
   replace af := BC HB.out af
   replace ag := BC HB.out ag
   replace aB := ET aB
   replace aC := ET aC
   have aD : 0 ≤ (((rd_T103 ae ab).f0) : Int) := DT
   have aE : ((rd_T103 ae ab).f0) < (ak.length : Int) := DT
   obtain ⟨aA, aw, ax, aV, ah, ao, ap⟩ := at_L3 aR.out ((rd_T103 ae ab).f0) aD aE
   have aq := ah
   cases aV
   replace ah := BC HB.out ah
   have ar := AM_ ap
   have az := AM_ ao
   clear ap ao
   replace aD := ET aD
   replace aE := ET aE
   refine start_ (n := 15) (S := fun w' => w'.cell? ⟨aT, 0, none⟩ = some (.slice (some aA) ak.length aN) ∧ w'.cell? ⟨ad, 0, none⟩ = some (.int .i64 aH) ∧ w'.cell? ⟨ad, 1, none⟩ = some (.int .i64 ay) ∧ w'.cell? ⟨ad, 2, none⟩ = some (.int .i64 aI) ∧ w'.cell? ⟨ad, 3, none⟩ = some (.int .i64 aG) ∧ w'.cell? ⟨ad, 4, none⟩ = some (.int .i64 aJ) ∧ w'.cell? ⟨ad, 5, none⟩ = some (.int .i64 aK) ∧ w'.cell? ⟨ad, 6, none⟩ = some (.int .i64 aL) ∧ w'.cell? ⟨ad, 7, none⟩ = some (.slice aO aF.length aP) ∧ w'.cell? ⟨ad, 8, none⟩ = some (.slice (some al) ae.length aQ) ∧ w'.cell? (al.add ((ab).toNat * 2)) = some (.int .i64 ((rd_T103 ae ab).f0)) ∧ w'.cell? ⟨(al.add ((ab).toNat * 2)).block, (al.add ((ab).toNat * 2)).off + 1, none⟩ = some (.int .i64 ((rd_T103 ae ab).f1)) ∧ w'.cell? (aA.add (((rd_T103 ae ab).f0)).toNat) = some (.slice aw (rd_L3 ak ((rd_T103 ae ab).f0)).length ax)) (ds := []) (lo 0 15) (by kernel_rfl) rfl rfl ⟨bc ac.out 0, bc aa.out 0, bc aa.out 1, bc aa.out 2, bc aa.out 3, bc aa.out 4, bc aa.out 5, bc aa.out 6, bc aa.out 7, bc aa.out 8, (BD HB.out an), (BD HB.out am), (BD HB.out aq)⟩ (fun ai => ?_); refine with_tabW spec_CommitCode.tab6 spec_CommitCode.bits6 (fun aj aM => ?_)
   generalize wr.drew = eW at ac aa HB ar af ag ah ai ⊢
   refine PS aj ?_
   refine PV 2 (some 19) (bs 5 15) aj ?_
   refine PV 4 (some 21) (bs 21 15) aj ?_
   refine PV 12 (some 29) (bs 4117 15) aj ?_
   refine TX 1 (some 18) (bs 4119 15) aj aM ai ?_
   refine TX 3 (some 20) (bs 4127 15) aj aM ai ?_
   refine PV 5 (some 22) (bs 4159 15) aj ?_
   refine PV 6 (some 23) (bs 4223 15) aj ?_
   refine TX 7 (some 24) (bs 4351 15) aj aM ai ?_
   refine PV 8 (some 25) (bs 4607 15) aj ?_
   refine TX 9 (some 26) (bs 5119 15) aj aM ai ?_
   refine TX 13 (some 30) (bs 13311 15) aj aM ai ?_
   refine one_ (i := 10) (N := some 27) (bs 14335 15) rfl rfl (one_of aj.out (by kernel_rfl)) (by decide) (fun K hK => ?_)
   refine GO Try.func21 #[.slice aw (rd_L3 ak ((rd_T103 ae ab).f0)).length ax] ?_
   with_reducible refine MB (spec_LatestVersion.calls k1 _ _ (rd_L3 ak ((rd_T103 ae ab).f0)) aZ ba aY bb bd _ (CC ar HB) az.out cg.out) ?_
   intro eX hb
   replace ac := BV ac hb
   replace aa := BV aa hb
   replace HB := BW HB hb
   (try clear hb)
   refine hK.out _ _ ⟨bc ac.out 0, bc aa.out 0, bc aa.out 1, bc aa.out 2, bc aa.out 3, bc aa.out 4, bc aa.out 5, bc aa.out 6, bc aa.out 7, bc aa.out 8, (BD HB.out an), (BD HB.out am), (BD HB.out aq)⟩ (fun ai => ?_)
   clear hK K
   refine NM 27 ?_
   refine PV (hy := by intro w'; go_simp; rfl) 11 (some 28) (lo 14 15) aj ?_
   refine PS aj ?_
   refine done_ (done_of aj.out (by kernel_rfl)) ?_
   obtain ⟨ea, eb, ec, ed, ee, ef, eg, eh, ei, ej, ek, el, em, en, eo, ep, eq, er⟩ := bk9 aa.out
   try go_wp2
   go_roundg k1
   case measure => have := bV.out; omega
   case rel => exact ⟨(wrap64 (ab + 1)), (by first | rfl | (simp; done) | (simp [*]; done)), H', ⟨by have := bV.out; omega⟩, ⟨BH ac.out⟩, ⟨BH aa.out⟩, ⟨BT HB.out⟩⟩

end Go.Proofs.Ytdgknikgfjhohaa.PFnSchemes
