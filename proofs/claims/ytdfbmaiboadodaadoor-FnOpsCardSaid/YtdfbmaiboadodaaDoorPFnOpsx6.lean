-- Printed by a program of mine (wip/myprint.py), which runs the printer of the kit with contracts of mine beside it.
import Derived.Test.YtdfbmaiboadodaaDoorPFnOpsx0
import Derived.Test.YtdfbmaiboadodaaDoorPFnOpsx3
import Derived.Test.YtdfbmaiboadodaaDoorPFnOpsx4
import Derived.Test.YtdfbmaiboadodaaDoorPFnOpsx5
namespace Go.Proofs.YtdfbmaiboadodaaDoor.PFnOps
open Go.RowKit Go.Proofs.YtdfbmaiboadodaaDoorW.PrintWords Go.Proofs.YtdfbmaiboadodaaDoorW.PrintLast Go.Proofs.YtdfbmaiboadodaaDoorW.PrintMore
attribute [local go_sem] max2_int min2_int max_two min_two max_three min_three max_four min_four   -- for this text's walks alone
set_option linter.unusedVariables false
set_option linter.unusedSimpArgs false

/-! ### impl_FormatOp: function 6 -/
def impl_FormatOp.f (k : Nat) (a0_0 : Int) (a0_1 : Int) (a0_2 : Int) (a0_3 : Int) (a0_4 : Int) (a0_5 : Int) : Option (ByteArray) := (impl_IsValidOp.f k a0_0 a0_1 a0_2 a0_3 a0_4 a0_5).bind fun t241 => (if t241 = true then ((impl_formatOp.f a0_0 a0_1 a0_2 a0_3 a0_4 a0_5).bind fun t242 => (some t242)) else (some (⟨#[]⟩ : ByteArray)))
theorem impl_FormatOp.mono : ∀ a0 a1 a2 a3 a4 a5 k, LeO (impl_FormatOp.f k a0 a1 a2 a3 a4 a5) (impl_FormatOp.f (k + 1) a0 a1 a2 a3 a4 a5) := by
 intro a0 a1 a2 a3 a4 a5 k
 unfold impl_FormatOp.f
 repeat' first
   | (with_reducible exact impl_IsValidOp.mono _ _ _ _ _ _ _)
   | (with_reducible exact LeO.refl _)
   | (with_reducible exact LeO.none _)
   | (with_reducible refine LeO.ite ?_ ?_)
   | (with_reducible refine LeO.bind ?_ (fun _ => ?_))
   | exact impl_IsValidOp.mono _ _ _ _ _ _ _
   | exact LeO.none _
   | refine LeO.ite ?_ ?_
   | refine LeO.bind ?_ (fun _ => ?_)
set_option maxHeartbeats 8000000 in
set_option maxRecDepth 100000 in
theorem impl_FormatOp.calls (k : Nat) (a0_0 : Int) (a0_1 : Int) (a0_2 : Int) (a0_3 : Int) (a0_4 : Int) (a0_5 : Int) (r : ByteArray) (w : World) (hTB : Tryd.TB w) (h : impl_FormatOp.f k a0_0 a0_1 a0_2 a0_3 a0_4 a0_5 = some r) :
  Calls Tryd.prog 6 #[.agg #[.int .i64 a0_0, .int .i64 a0_1, .int .i64 a0_2, .int .i64 a0_3, .int .i64 a0_4, .int .i64 a0_5]] w fun e w' => e = .returned (.string r) ∧ Below w.heap.size w w' := by
 have hu25 := Tryd.underlying25
 have HB := AM_ (Below.refl w.heap.size w)
 have H : ((impl_IsValidOp.f k a0_0 a0_1 a0_2 a0_3 a0_4 a0_5).bind fun t241 => (if t241 = true then ((impl_formatOp.f a0_0 a0_1 a0_2 a0_3 a0_4 a0_5).bind fun t242 => (some t242)) else (some (⟨#[]⟩ : ByteArray)))) = some r := h
 clear h
 replace H := Option.bind_eq_some_iff.mp H
 obtain ⟨t241, A20, H⟩ := H
 replace H : (if t241 = true then ((impl_formatOp.f a0_0 a0_1 a0_2 a0_3 a0_4 a0_5).bind fun t242 => (some t242)) else (some (⟨#[]⟩ : ByteArray))) = some r := H
 have A2 := AM_ A20
 clear A20
 by_cases c3 : t241 = true
 rotate_left
 ·replace c3 := Bool.eq_false_iff.mpr c3
  subst c3
  have H1 : (some (⟨#[]⟩ : ByteArray)) = some r := by rw [if_neg (show ¬ (false = true) by decide)] at H; exact H
  clear H
  have H := H1
  clear H1
  obtain rfl := Option.some.inj H
  go_enter Tryd.func6, Tryd.ntmps6
  go_wp2_with (first | ((with_reducible refine gate_dst (N := 1) rfl ?_); refine box_event ?hg (N := 1) ?hd (cs := #[.int .i64 a0_0, .int .i64 a0_1, .int .i64 a0_2, .int .i64 a0_3, .int .i64 a0_4, .int .i64 a0_5]) (t := 25) ?hr ?_; (case hd => rfl); (case hg => rfl); (case hr => first | (go_simp; done) | (go_simp; rfl)); intro gb240 hg w10 hbox hb; have BK240 := AM_ (hbox); have GW240 := AM_ ((GS HB.out hg)); have GE240 := AM_ ((GS HB.out hg)); replace HB := AM_ (below_step (BT HB.out) hb); clear hb hbox hg; obtain ⟨hcz11_0, hcz11_1, hcz11_2, hcz11_3, hcz11_4, hcz11_5, hfz11_0, hfz11_1, hfz11_2, hfz11_3, hfz11_4, hfz11_5⟩ := bk6 BK240.out) | ((with_reducible refine gate_callee (f := 18) rfl ?_); refine goesL_ (some 4) rfl rfl Tryd.func18 (by kernel_rfl) rfl #[.agg #[.int .i64 a0_0, .int .i64 a0_1, .int .i64 a0_2, .int .i64 a0_3, .int .i64 a0_4, .int .i64 a0_5]] rfl (by (try simp only [List.map_toArray, List.map_cons, List.map_nil]); first | done | rfl | (simp only [List.length_drop, List.length_take]; rfl)) ?_; (with_reducible refine (impl_IsValidOp.calls k a0_0 a0_1 a0_2 a0_3 a0_4 a0_5 false _ A2.out).mono ?_); rintro e w12 ⟨rfl, hb⟩; refine ⟨_, rfl, ?_⟩; replace BK240 := AM_ (BB BK240.out hb); replace HB := AM_ (below_step (BT HB.out) hb); (try clear hb); (try clear hb2); (try clear hk); (try clear hi)))
  go_ret
  exact QT (BT HB.out)
 subst c3
 have H1 : ((impl_formatOp.f a0_0 a0_1 a0_2 a0_3 a0_4 a0_5).bind fun t242 => (some t242)) = some r := by rw [if_pos rfl] at H; exact H
 clear H
 have H := H1
 clear H1
 replace H := Option.bind_eq_some_iff.mp H
 obtain ⟨t242, A40, H⟩ := H
 replace H : (some t242) = some r := H
 have A4 := AM_ A40
 clear A40
 obtain rfl := Option.some.inj H
 go_enter Tryd.func6, Tryd.ntmps6
 go_wp2_with (first | ((with_reducible refine gate_dst (N := 1) rfl ?_); refine box_event ?hg (N := 1) ?hd (cs := #[.int .i64 a0_0, .int .i64 a0_1, .int .i64 a0_2, .int .i64 a0_3, .int .i64 a0_4, .int .i64 a0_5]) (t := 25) ?hr ?_; (case hd => rfl); (case hg => rfl); (case hr => first | (go_simp; done) | (go_simp; rfl)); intro gb240 hg w5 hbox hb; have BK240 := AM_ (hbox); have GW240 := AM_ ((GS HB.out hg)); have GE240 := AM_ ((GS HB.out hg)); replace HB := AM_ (below_step (BT HB.out) hb); clear hb hbox hg; obtain ⟨hcz6_0, hcz6_1, hcz6_2, hcz6_3, hcz6_4, hcz6_5, hfz6_0, hfz6_1, hfz6_2, hfz6_3, hfz6_4, hfz6_5⟩ := bk6 BK240.out) | ((with_reducible refine gate_callee (f := 18) rfl ?_); refine goesL_ (some 4) rfl rfl Tryd.func18 (by kernel_rfl) rfl #[.agg #[.int .i64 a0_0, .int .i64 a0_1, .int .i64 a0_2, .int .i64 a0_3, .int .i64 a0_4, .int .i64 a0_5]] rfl (by (try simp only [List.map_toArray, List.map_cons, List.map_nil]); first | done | rfl | (simp only [List.length_drop, List.length_take]; rfl)) ?_; (with_reducible refine (impl_IsValidOp.calls k a0_0 a0_1 a0_2 a0_3 a0_4 a0_5 true _ A2.out).mono ?_); rintro e w7 ⟨rfl, hb⟩; refine ⟨_, rfl, ?_⟩; replace BK240 := AM_ (BB BK240.out hb); replace HB := AM_ (below_step (BT HB.out) hb); (try clear hb); (try clear hb2); (try clear hk); (try clear hi); obtain ⟨hcz8_0, hcz8_1, hcz8_2, hcz8_3, hcz8_4, hcz8_5, hfz8_0, hfz8_1, hfz8_2, hfz8_3, hfz8_4, hfz8_5⟩ := bk6 BK240.out) | ((with_reducible refine gate_callee (f := 19) rfl ?_); refine goesL_ (some 7) rfl rfl Tryd.func19 (by kernel_rfl) rfl #[.agg #[.int .i64 a0_0, .int .i64 a0_1, .int .i64 a0_2, .int .i64 a0_3, .int .i64 a0_4, .int .i64 a0_5]] rfl (by (try simp only [List.map_toArray, List.map_cons, List.map_nil]); first | done | rfl | (simp only [List.length_drop, List.length_take]; rfl)) ?_; (with_reducible refine (impl_formatOp.calls a0_0 a0_1 a0_2 a0_3 a0_4 a0_5 t242 _ ?side1 A4.out).mono ?_); (case side1 => first | (with_reducible exact hTB) | exact Tryd.TB_below hTB (BT HB.out)); rintro e w9 ⟨rfl, hb⟩; refine ⟨_, rfl, ?_⟩; replace BK240 := AM_ (BB BK240.out hb); replace HB := AM_ (below_step (BT HB.out) hb); (try clear hb); (try clear hb2); (try clear hk); (try clear hi)))
 go_ret
 exact QT (BT HB.out)

/-! ### strings_Split: function 20 -/
def strings_Split.f (a0 a1 : ByteArray) : Option (List ByteArray) := if a0.size < 4294967281 then (if 1 ≤ a1.size then (some (Lib.splitB a1 0 (Lib.countB a0 a1) a0)) else (none)) else (none)
theorem strings_Split.calls (a0 a1 : ByteArray) (r : List ByteArray) (w : World) (hTB : Tryd.TB w) (h : strings_Split.f a0 a1 = some r) :
  Calls Tryd.prog 20 #[.string a0, .string a1] w fun e w' => ∃ v0_ : Value, e = .returned (v0_) ∧ Kd.R Kd.string 9 w' w.heap.size (fun _ => True) v0_ r ∧ Below w.heap.size w w' := by
 unfold strings_Split.f at h
 by_cases c0 : a0.size < 4294967281
 rotate_left
 ·rw [if_neg c0] at h; exact absurd h (by simp)
 rw [if_pos c0] at h
 by_cases c1 : 1 ≤ a1.size
 rotate_left
 ·rw [if_neg c1] at h; exact absurd h (by simp)
 rw [if_pos c1] at h
 obtain rfl := Option.some.inj h
 obtain ⟨_, ⟨m, hm⟩, _⟩ := hTB
 have hlen : (Lib.splitB a1 0 (Lib.countB a0 a1) a0).length = Lib.countB a0 a1 + 1 := Lib.splitB_all a1 c1 0 _ a0 rfl
 have hle := Lib.countB_le a1 c1 a0.size a0 (Nat.le_refl _)
 refine (Tryd.strings_Split a0 a1 m w c0 hm c1).mono ?_
 rintro e w' ⟨rfl, rfl⟩
 generalize Lib.splitB a1 0 (Lib.countB a0 a1) a0 = xs at hlen ⊢
 have hb : Below w.heap.size w (w.alloc (.cells (xs.map Value.string).toArray 9)) := below_alloc (Below.refl _ _) _
 refine ⟨_, rfl, ⟨fun _ _ => trivial, xs.map Value.string, ⟨by rw [List.length_map]; exact (Nat.mul_one _).symm, .inr ⟨w.heap.size, Lib.countB a0 a1 + 1, (xs.map Value.string).toArray, ?_, Nat.le_refl _, ?_, by omega, by unfold maxLen; omega, ?_, ?_⟩⟩, ?_, ?_⟩, hb⟩
 ·rw [hlen]
 ·exact heap_alloc_new _ _
 ·simp [hlen, Kd.string, Kd.scalar]
 ·simp [Kd.string, Kd.scalar, List.take_of_length_le]
 ·simp [Kd.string, Kd.scalar]
 ·intro j p hj
  show ((xs.map Value.string).drop (j * 1)).take 1 = [Value.string p]
  obtain ⟨hjl, rfl⟩ := List.getElem?_eq_some_iff.1 hj
  have hjm : j < (xs.map Value.string).length := by simpa using hjl
  rw [Nat.mul_one, List.drop_eq_getElem_cons hjm, List.take_succ_cons, List.take_zero, List.getElem_map]

/-! ### strings_IndexByte: function 21 -/
def strings_IndexByte.f (a0 : ByteArray) (a1 : Int) : Option Int := some (Lib.indexByte a0.data.toList a1.toNat.toUInt8)
theorem strings_IndexByte.calls (a0 : ByteArray) (a1 : Int) (r : Int) (w : World) (h : strings_IndexByte.f a0 a1 = some r) :
  Calls Tryd.prog 21 #[.string a0, .int .u8 a1] w fun e w' => e = .returned (.int .i64 r) ∧ Below w.heap.size w w' := by
 obtain rfl := Option.some.inj h
 refine (Tryd.strings_IndexByte a0 a1 w).mono ?_
 rintro e w' ⟨rfl, rfl⟩
 exact ⟨rfl, Below.refl _ _⟩

/-! ### impl_ParseInt: function 22 -/
def impl_ParseInt.f (a0 : ByteArray) : Option (Int × Bool) := if a0.size ≤ 281474976710656 then (match Lib.atoiAll a0.data.toList with | .ok v => if (-999999999 ≤ v ∧ v ≤ 999999999) ∧ Lib.itoa v = a0.data.toList then some (v, true) else some (0, false) | _ => some (0, false)) else none
theorem impl_ParseInt_atoi (s : ByteArray) (hs : s.size ≤ 281474976710656) (w : World) (hTB : Tryd.TB w) :
  (∀ v, Lib.atoiAll s.data.toList = .ok v → Calls Tryd.prog 49 #[.string s] w fun e w' => e = .returned (.tuple #[.int .i64 v, .nilIface]) ∧ Below w.heap.size w w') ∧
  ((∀ v, Lib.atoiAll s.data.toList ≠ .ok v) → Calls Tryd.prog 49 #[.string s] w fun e w' => ∃ n t p, e = .returned (.tuple #[.int .i64 n, .iface t (.pointer (some p))]) ∧ Below w.heap.size w w') := by
 obtain ⟨_, _, ⟨e1, h1, h1'⟩, ⟨e2, h2, h2'⟩⟩ := hTB
 refine ⟨fun v hv => ?_, fun hn => ?_⟩
 ·refine (Tryd.strconv_Atoi_ok s (by omega) v hv w).mono ?_
  rintro e w' ⟨rfl, hw⟩
  refine ⟨rfl, ?_⟩
  rcases hw with rfl | ⟨t, rfl⟩
  ·exact Below.refl _ _
  ·exact Lib.bytesWorld_below _ _ _
 ·by_cases hr : Lib.atoiAll s.data.toList = .range
  ·refine (Tryd.strconv_Atoi_range s hs hr e2 w h2 h2').mono ?_
   rintro e w' ⟨N, rfl, _, _, hb⟩
   exact ⟨_, _, _, rfl, hb⟩
  refine (Tryd.strconv_Atoi_none s hs hn hr e1 w h1 h1').mono ?_
  rintro e w' ⟨N, rfl, _, _, hb⟩
  exact ⟨_, _, _, rfl, hb⟩
theorem impl_ParseInt.calls (a0 : ByteArray) (r1 : Int) (r2 : Bool) (w : World) (hTB : Tryd.TB w) (h : impl_ParseInt.f a0 = some (r1, r2)) :
  Calls Tryd.prog 22 #[.string a0] w fun e w' => e = .returned (.tuple #[.int .i64 r1, .bool r2]) ∧ Below w.heap.size w w' := by
 unfold impl_ParseInt.f at h
 by_cases c0 : a0.size ≤ 281474976710656
 rotate_left
 ·rw [if_neg c0] at h; exact absurd h (by simp)
 rw [if_pos c0] at h
 obtain ⟨hok, hbad⟩ := impl_ParseInt_atoi a0 c0 w hTB
 have HT := AM_ hTB
 clear hTB
 by_cases hv : ∃ v, Lib.atoiAll a0.data.toList = .ok v
 rotate_left
 ·have hn : ∀ v, Lib.atoiAll a0.data.toList ≠ .ok v := fun v h_ => hv ⟨v, h_⟩
  have hr : r1 = 0 ∧ r2 = false := by
   rcases hc : Lib.atoiAll a0.data.toList with v | _ | _
   ·exact absurd hc (hn v)
   all_goals (rw [hc] at h; have := Option.some.inj h; injection this with h1 h2; exact ⟨h1.symm, h2.symm⟩)
  obtain ⟨rfl, rfl⟩ := hr
  have HV := AM_ (hbad hn)
  clear hok hbad hv hn h c0
  go_enter Tryd.func22, Tryd.ntmps22
  go_wp2_with (first | (go_at_call 49; refine HV.out.mono ?_; rintro e W1 ⟨n_, t_, p_, rfl, hb1⟩; have HB := AM_ hb1; clear hb1))
  go_ret2
  exact ⟨by first | rfl | (simp; done), by repeat (first | exact HB.out | apply below_alloc | apply pw_below_drewN | apply below_drew1)⟩
 obtain ⟨v, hv⟩ := hv
 replace hok := hok v hv
 clear hbad
 rw [hv] at h
 dsimp only at h
 have vb := Lib.atoiAll_bounds hv
 by_cases cr : -999999999 ≤ v ∧ v ≤ 999999999
 rotate_left
 ·rw [if_neg (fun h_ => cr h_.1)] at h
  obtain ⟨rfl, rfl⟩ : 0 = r1 ∧ false = r2 := by simpa using h
  have ci : impl_in.f v (-999999999) 999999999 = some false := by
   unfold impl_in.f
   by_cases c1 : -999999999 ≤ v
   rotate_left
   ·rw [if_neg c1]
   rw [if_pos c1, decide_eq_false (fun c2 => cr ⟨c1, c2⟩)]
  have HI := AM_ ci
  have HV := AM_ hok
  clear ci hok vb h hv cr c0
  go_enter Tryd.func22, Tryd.ntmps22
  go_wp2_with (first | (go_at_call 49; refine HV.out.mono ?_; rintro e W1 ⟨rfl, hb1⟩; have HB := AM_ hb1; clear hb1) | (go_at_call 42; refine (impl_in.calls _ _ _ _ _ HI.out).mono ?_; rintro e W2 ⟨rfl, ⟨nd, rfl⟩⟩))
  go_ret2
  exact ⟨by first | rfl | (simp; done), by repeat (first | exact HB.out | apply below_alloc | apply pw_below_drewN | apply below_drew1)⟩
 have ci : impl_in.f v (-999999999) 999999999 = some true := by unfold impl_in.f; rw [if_pos cr.1, decide_eq_true cr.2]
 have ct : strconv_Itoa.f v = some ⟨(Lib.itoa v).toArray⟩ := by unfold strconv_Itoa.f; rw [if_pos (by omega), if_pos (by omega)]
 have HI := AM_ ci
 have HC := AM_ ct
 have HV := AM_ hok
 clear ci ct hok vb
 by_cases ce : Lib.itoa v = a0.data.toList
 ·rw [if_pos ⟨cr, ce⟩] at h
  obtain ⟨rfl, rfl⟩ : v = r1 ∧ true = r2 := by simpa using h
  obtain rfl : a0 = ⟨(Lib.itoa v).toArray⟩ := by rw [ce]
  clear h hv cr ce c0
  go_enter Tryd.func22, Tryd.ntmps22
  go_wp2_with (first | (go_at_call 49; refine HV.out.mono ?_; rintro e W1 ⟨rfl, hb1⟩; have HB := AM_ hb1; clear hb1) | (go_at_call 42; refine (impl_in.calls _ _ _ _ _ HI.out).mono ?_; rintro e W2 ⟨rfl, ⟨nd, rfl⟩⟩) | (go_at_call 50; refine (strconv_Itoa.calls _ _ _ ?tb HC.out).mono ?_; (case tb => exact Tryd.TB_below HT.out (by repeat (first | exact HB.out | apply below_alloc | apply pw_below_drewN | apply below_drew1))); rintro e W3 ⟨rfl, hb3⟩; have HB3 := AM_ hb3; clear hb3))
  go_ret2
  exact ⟨by first | rfl | (simp; done), by first | exact below_step (by repeat (first | exact HB.out | apply below_alloc | apply pw_below_drewN | apply below_drew1)) HB3.out | exact HB.out⟩
 rw [if_neg (fun h_ => ce h_.2)] at h
 obtain ⟨rfl, rfl⟩ : 0 = r1 ∧ false = r2 := by simpa using h
 have cq : (Lib.itoa v == a0.toList) = false := by rw [ByteArray.toList_eq]; exact beq_false_of_ne ce
 clear h hv cr ce c0
 go_enter Tryd.func22, Tryd.ntmps22
 go_wp2_with (first | (go_at_call 49; refine HV.out.mono ?_; rintro e W1 ⟨rfl, hb1⟩; have HB := AM_ hb1; clear hb1) | (go_at_call 42; refine (impl_in.calls _ _ _ _ _ HI.out).mono ?_; rintro e W2 ⟨rfl, ⟨nd, rfl⟩⟩) | (go_at_call 50; refine (strconv_Itoa.calls _ _ _ ?tb HC.out).mono ?_; (case tb => exact Tryd.TB_below HT.out (by repeat (first | exact HB.out | apply below_alloc | apply pw_below_drewN | apply below_drew1))); rintro e W3 ⟨rfl, hb3⟩; have HB3 := AM_ hb3; clear hb3))
 all_goals first | (exfalso; rename_i hh; rw [cq] at hh; exact Bool.noConfusion hh) | (go_ret2; exact ⟨by first | rfl | (simp; done), by first | exact below_step (by repeat (first | exact HB.out | apply below_alloc | apply pw_below_drewN | apply below_drew1)) HB3.out | exact HB.out⟩)

/-! ### impl_parseScheme: function 23 -/
def impl_parseScheme.l0 : Nat → ByteArray → Int → Option (Int)
 | 0, _, _ => none
 | k + 1, x0, x3 => if x3 ≤ 4 then ((impl_SchemeName.f x3).bind fun t243 => (if t243.toList = x0.toList then (some x3) else (impl_parseScheme.l0 k x0 (wrap64 (x3 + 1))))) else (some 0)
def impl_parseScheme.f (k : Nat) (a0 : ByteArray) : Option (Int) := impl_parseScheme.l0 k a0 1
theorem impl_parseScheme.mono_l : ∀ k, (∀ y0 y1, LeO (impl_parseScheme.l0 k y0 y1) (impl_parseScheme.l0 (k + 1) y0 y1))
 | 0 => fun _ _ r h => by simp [impl_parseScheme.l0] at h
 | k + 1 => by
  have ih0 := impl_parseScheme.mono_l k
  ·intro y0 y1
   unfold impl_parseScheme.l0
   repeat' first
   | (with_reducible exact ih0 _ _)
   | (with_reducible exact LeO.refl _)
   | (with_reducible exact LeO.none _)
   | (with_reducible refine LeO.ite ?_ ?_)
   | (with_reducible refine LeO.bind ?_ (fun _ => ?_))
   | exact ih0 _ _
   | exact LeO.none _
   | refine LeO.ite ?_ ?_
   | refine LeO.bind ?_ (fun _ => ?_)
theorem impl_parseScheme.mono : ∀ a0 k, LeO (impl_parseScheme.f k a0) (impl_parseScheme.f (k + 1) a0) := by
 intro a0 k
 have ih0 := impl_parseScheme.mono_l k
 unfold impl_parseScheme.f
 repeat' first
   | (with_reducible exact ih0 _ _)
   | (with_reducible exact LeO.refl _)
   | (with_reducible exact LeO.none _)
   | (with_reducible refine LeO.ite ?_ ?_)
   | (with_reducible refine LeO.bind ?_ (fun _ => ?_))
   | exact ih0 _ _
   | exact LeO.none _
   | refine LeO.ite ?_ ?_
   | refine LeO.bind ?_ (fun _ => ?_)
set_option maxHeartbeats 8000000 in
set_option maxRecDepth 100000 in
theorem impl_parseScheme.calls (k : Nat) (a0 : ByteArray) (r : Int) (w : World) (h : impl_parseScheme.f k a0 = some r) :
  Calls Tryd.prog 23 #[.string a0] w fun e w' => e = .returned (.int .i64 r) ∧ Below w.heap.size w w' := by
 have HB := AM_ (Below.refl w.heap.size w)
 have H : (impl_parseScheme.l0 k a0 1) = some r := h
 clear h
 have H' := AM_ H
 clear H
 go_enter Tryd.func23, Tryd.ntmps23
 go_wp2
 go_loopg [3] k (fun kq v3 w' => ∃ (x3_1 : Int), v3 = .int .i64 x3_1 ∧ Aside0 (impl_parseScheme.l0 kq a0 x3_1 = some r) ∧ Aside0 (kq ≤ k) ∧ Aside0 (Below w.heap.size w w'))
 case atStart => exact ⟨(1), (by first | rfl | (simp; done) | (simp [*]; done)), H', ⟨Nat.le_refl _⟩, ⟨BT HB.out⟩⟩
 case round =>
  clear H'
  obtain ⟨x3_1, rfl, HA, HK1, HB⟩ := hrel
  cases gk with
  | zero => exact absurd HA.out (by simp [impl_parseScheme.l0])
  | succ k1 =>
   have H := HA.out
   clear HA
   simp only [impl_parseScheme.l0] at H
   by_cases c2 : x3_1 ≤ 4
   rotate_left
   ·rw [if_neg c2] at H
    have c2b0 : decide (x3_1 ≤ 4) = false := decide_eq_false c2
    clear c2
    obtain rfl := Option.some.inj H
    go_wp2
    go_ret
    exact QT (BT HB.out)
   rw [if_pos c2] at H
   have c2b0 : decide (x3_1 ≤ 4) = true := decide_eq_true c2
   clear c2
   replace H := Option.bind_eq_some_iff.mp H
   obtain ⟨t243, A30, H⟩ := H
   replace H : (if t243.toList = a0.toList then (some x3_1) else (impl_parseScheme.l0 k1 a0 (wrap64 (x3_1 + 1)))) = some r := H
   have A3 := AM_ A30
   clear A30
   by_cases c4 : t243.toList = a0.toList
   ·rw [if_pos c4] at H
    have c4b0 : (t243.toList == a0.toList) = true := beq_iff_eq.mpr c4
    have c4b1 : (t243.toList != a0.toList) = false := bne_eq_false_iff_eq.mpr c4
    clear c4
    obtain rfl := Option.some.inj H
    go_wp2_with (first | ((with_reducible refine gate_callee (f := 45) rfl ?_); refine goesL_ (some 9) rfl rfl Tryd.func45 (by kernel_rfl) rfl #[.int .i64 x3_1] rfl (by (try simp only [List.map_toArray, List.map_cons, List.map_nil]); first | done | rfl | (simp only [List.length_drop, List.length_take]; rfl)) ?_; (with_reducible refine (impl_SchemeName.calls x3_1 t243 _ A3.out).mono ?_); rintro e w5 ⟨rfl, hb⟩; refine ⟨_, rfl, ?_⟩; replace HB := AM_ (below_step (BT HB.out) hb); (try clear hb); (try clear hb2); (try clear hk); (try clear hi)))
    go_ret
    exact QT (BT HB.out)
   rw [if_neg c4] at H
   have c4b0 : (t243.toList == a0.toList) = false := beq_eq_false_iff_ne.mpr c4
   have c4b1 : (t243.toList != a0.toList) = true := bne_iff_ne.mpr c4
   have H' := AM_ H
   clear H
   go_wp2_with (first | ((with_reducible refine gate_callee (f := 45) rfl ?_); refine goesL_ (some 9) rfl rfl Tryd.func45 (by kernel_rfl) rfl #[.int .i64 x3_1] rfl (by (try simp only [List.map_toArray, List.map_cons, List.map_nil]); first | done | rfl | (simp only [List.length_drop, List.length_take]; rfl)) ?_; (with_reducible refine (impl_SchemeName.calls x3_1 t243 _ A3.out).mono ?_); rintro e w6 ⟨rfl, hb⟩; refine ⟨_, rfl, ?_⟩; replace HB := AM_ (below_step (BT HB.out) hb); (try clear hb); (try clear hb2); (try clear hk); (try clear hi)))
   go_roundg k1
   case measure => have := HK1.out; omega
   case rel => exact ⟨(wrap64 (x3_1 + 1)), (by first | rfl | (simp; done) | (simp [*]; done)), H', ⟨by have := HK1.out; omega⟩, ⟨BT HB.out⟩⟩

/-! ### impl_parseValue: function 24 -/
def impl_parseValue.f (a0 : ByteArray) : Option (Int × Bool) := (impl_ParseInt.f a0).bind fun bt244 => (if a0.toList = ([45] : List UInt8) then (some ((-1), true)) else (if bt244.2 = true then ((impl_in.f bt244.1 0 99).bind fun t246 => (some (bt244.1, t246))) else (some (bt244.1, false))))
set_option maxHeartbeats 8000000 in
set_option maxRecDepth 100000 in
theorem impl_parseValue.calls (a0 : ByteArray) (r1 : Int) (r2 : Bool) (w : World) (hTB : Tryd.TB w) (h : impl_parseValue.f a0 = some (r1, r2)) :
  Calls Tryd.prog 24 #[.string a0] w fun e w' => e = .returned (.tuple #[.int .i64 r1, .bool r2]) ∧ Below w.heap.size w w' := by
 have HB := AM_ (Below.refl w.heap.size w)
 have H : ((impl_ParseInt.f a0).bind fun bt244 => (if a0.toList = ([45] : List UInt8) then (some ((-1), true)) else (if bt244.2 = true then ((impl_in.f bt244.1 0 99).bind fun t246 => (some (bt244.1, t246))) else (some (bt244.1, false))))) = some (r1, r2) := h
 clear h
 replace H := Option.bind_eq_some_iff.mp H
 obtain ⟨⟨t244, t245⟩, A20, H⟩ := H
 replace H : (if a0.toList = ([45] : List UInt8) then (some ((-1), true)) else (if t245 = true then ((impl_in.f t244 0 99).bind fun t246 => (some (t244, t246))) else (some (t244, false)))) = some (r1, r2) := H
 have A2 := AM_ A20
 clear A20
 by_cases c3 : a0.toList = ([45] : List UInt8)
 ·rw [if_pos c3] at H
  have c3b0 : (a0.toList == ([45] : List UInt8)) = true := beq_iff_eq.mpr c3
  have c3b1 : (a0.toList != ([45] : List UInt8)) = false := bne_eq_false_iff_eq.mpr c3
  clear c3
  simp only [Option.some.injEq, Prod.mk.injEq] at H
  obtain ⟨rfl, rfl⟩ := H
  go_enter Tryd.func24, Tryd.ntmps24
  go_wp2_with (first | ((with_reducible refine gate_callee (f := 22) rfl ?_); refine goesL_ (some 8) rfl rfl Tryd.func22 (by kernel_rfl) rfl #[.string a0] rfl (by (try simp only [List.map_toArray, List.map_cons, List.map_nil]); first | done | rfl | (simp only [List.length_drop, List.length_take]; rfl)) ?_; (with_reducible refine (impl_ParseInt.calls a0 t244 t245 _ ?side1 A2.out).mono ?_); (case side1 => first | (with_reducible exact hTB) | exact Tryd.TB_below hTB (BT HB.out)); rintro e w4 ⟨rfl, hb⟩; refine ⟨_, rfl, ?_⟩; replace HB := AM_ (below_step (BT HB.out) hb); (try clear hb); (try clear hb2); (try clear hk); (try clear hi)))
  go_ret2
  exact QT (BT HB.out)
 rw [if_neg c3] at H
 have c3b0 : (a0.toList == ([45] : List UInt8)) = false := beq_eq_false_iff_ne.mpr c3
 have c3b1 : (a0.toList != ([45] : List UInt8)) = true := bne_iff_ne.mpr c3
 by_cases c5 : t245 = true
 rotate_left
 ·replace c5 := Bool.eq_false_iff.mpr c5
  subst c5
  have H1 : (some (t244, false)) = some (r1, r2) := by rw [if_neg (show ¬ (false = true) by decide)] at H; exact H
  clear H
  have H := H1
  clear H1
  simp only [Option.some.injEq, Prod.mk.injEq] at H
  obtain ⟨rfl, rfl⟩ := H
  go_enter Tryd.func24, Tryd.ntmps24
  go_wp2_with (first | ((with_reducible refine gate_callee (f := 22) rfl ?_); refine goesL_ (some 8) rfl rfl Tryd.func22 (by kernel_rfl) rfl #[.string a0] rfl (by (try simp only [List.map_toArray, List.map_cons, List.map_nil]); first | done | rfl | (simp only [List.length_drop, List.length_take]; rfl)) ?_; (with_reducible refine (impl_ParseInt.calls a0 t244 false _ ?side1 A2.out).mono ?_); (case side1 => first | (with_reducible exact hTB) | exact Tryd.TB_below hTB (BT HB.out)); rintro e w8 ⟨rfl, hb⟩; refine ⟨_, rfl, ?_⟩; replace HB := AM_ (below_step (BT HB.out) hb); (try clear hb); (try clear hb2); (try clear hk); (try clear hi)))
  go_ret2
  exact QT (BT HB.out)
 subst c5
 have H1 : ((impl_in.f t244 0 99).bind fun t246 => (some (t244, t246))) = some (r1, r2) := by rw [if_pos rfl] at H; exact H
 clear H
 have H := H1
 clear H1
 replace H := Option.bind_eq_some_iff.mp H
 obtain ⟨t246, A60, H⟩ := H
 replace H : (some (t244, t246)) = some (r1, r2) := H
 have A6 := AM_ A60
 clear A60
 simp only [Option.some.injEq, Prod.mk.injEq] at H
 obtain ⟨rfl, rfl⟩ := H
 go_enter Tryd.func24, Tryd.ntmps24
 go_wp2_with (first | ((with_reducible refine gate_callee (f := 22) rfl ?_); refine goesL_ (some 8) rfl rfl Tryd.func22 (by kernel_rfl) rfl #[.string a0] rfl (by (try simp only [List.map_toArray, List.map_cons, List.map_nil]); first | done | rfl | (simp only [List.length_drop, List.length_take]; rfl)) ?_; (with_reducible refine (impl_ParseInt.calls a0 t244 true _ ?side1 A2.out).mono ?_); (case side1 => first | (with_reducible exact hTB) | exact Tryd.TB_below hTB (BT HB.out)); rintro e w7 ⟨rfl, hb⟩; refine ⟨_, rfl, ?_⟩; replace HB := AM_ (below_step (BT HB.out) hb); (try clear hb); (try clear hb2); (try clear hk); (try clear hi)) | (go_at_call 42; (with_reducible refine (impl_in.calls t244 0 99 t246 _ A6.out).mono ?_); rintro e w' ⟨rfl, ⟨nd, rfl⟩⟩))
 go_ret2
 exact QT (BT HB.out)

end Go.Proofs.YtdfbmaiboadodaaDoor.PFnOps
