-- Printed by wip/myprint.py.
import Derived.Test.YtdgknikgfjhohaaProg
import Derived.Below
import Derived.Deep.Draws
import Derived.Deep.AppendLies
import Derived.Maps.AppendAt
import Derived.OwnWalk
import Derived.Laws.BytesArg
import Derived.Laws.MakeOwn
import Derived.Laws.OwnMore
import Derived.Deep.OwnRows
import Derived.Tactics
import Derived.Lib.ConvBytes
import Derived.Laws.Slices
import Derived.WalkKit
import Derived.KernelRfl
import Derived.RowKit3
import Derived.Deep.LoopGhost
import Derived.Deep.QuietTactic
import Derived.BigQuiet
import Derived.WideLaws
import Derived.Deep.DeepCutAuto
import Derived.Deep.CutBlock
import Derived.Deep.RegionHeld3
import Derived.Laws.Rows
import Derived.Lib.AppendStr
import Derived.ArgAppend
import Derived.Laws.IdiomCopy
import Derived.OrdersHeld
import Derived.Laws.BitsLemmas
import Derived.RowKit
import Derived.Test.YtdgknikgfjhohaaFnKU
import Derived.Test.YtdgknikgfjhohaaShortU
import Derived.Test.YtdgknikgfjhohaaWEqStructU
import Derived.Test.YtdgknikgfjhohaaWRepsOneU
import Derived.Test.YtdgknikgfjhohaaWInvU
import Derived.Test.YtdgknikgfjhohaaWGuardU
namespace Go.Proofs.Ytdgknikgfjhohaa.PFnSchemes
open Go.RowKit Go.Proofs.YtdgknikgfjhohaaW.PrintWords Go.Proofs.YtdgknikgfjhohaaW.PrintLast Go.Proofs.YtdgknikgfjhohaaW.PrintMore
set_option maxHeartbeats 8000000
set_option maxRecDepth 100000
set_option linter.unusedVariables false
set_option linter.unusedSimpArgs false
attribute [local go_sem] max2_int min2_int max_two min_two max_three min_three max_four min_four

def errW : Option Int → Value
 | none => .nilIface
 | some c => .iface 0 (.int .i64 c)
theorem errW_none : errW none = .nilIface := rfl
theorem errW_some (c : Int) : errW (some c) = .iface 0 (.int .i64 c) := rfl

theorem info52 : (Try.prog.info? 52).map (fun i => (i.zero, i.size, i.bytes)) = some (some (.agg #[(.int .i64 0), (.int .i64 0), (.int .i64 0), (.int .i64 0), (.int .i64 0)]), 5, 40) := by kernel_rfl
theorem info62 : (Try.prog.info? 62).map (fun i => (i.zero, i.size, i.bytes)) = some (some (.slice none 0 0), 1, 24) := by kernel_rfl
theorem info76 : (Try.prog.info? 76).map (fun i => (i.zero, i.size, i.bytes)) = some (some (.agg #[(.int .i64 0), (.int .i64 0)]), 2, 16) := by kernel_rfl
theorem info103 : (Try.prog.info? 103).map (fun i => (i.zero, i.size, i.bytes)) = some (some (.agg #[(.int .i64 0), (.int .i64 0)]), 2, 16) := by kernel_rfl
theorem info116 : (Try.prog.info? 116).map (fun i => (i.zero, i.size, i.bytes)) = some (some (.agg #[(.int .i64 0), (.int .i64 0)]), 2, 16) := by kernel_rfl
-- the values' own types
/-! #### struct type 52 -/
structure S52 where
 f0 : Int
 f1 : Int
 f2 : Int
 f3 : Int
 f4 : Int
def z52 : S52 := ⟨(0 : Int), (0 : Int), (0 : Int), (0 : Int), (0 : Int)⟩
def k52 : Kd S52 := Kd.iso (Kd.pair (Kd.int .i64) (Kd.pair (Kd.int .i64) (Kd.pair (Kd.int .i64) (Kd.pair (Kd.int .i64) (Kd.int .i64))))) (fun x : S52 => (x.f0, x.f1, x.f2, x.f3, x.f4))
theorem k52_open {w : World} {x : S52} {cs : List Value} (h : k52.K w x cs) : cs = [.int .i64 x.f0, .int .i64 x.f1, .int .i64 x.f2, .int .i64 x.f3, .int .i64 x.f4] := by
 obtain ⟨_, _, rfl, rfl, ⟨_, _, rfl, rfl, ⟨_, _, rfl, rfl, ⟨_, _, rfl, rfl, rfl⟩⟩⟩⟩ := h
 exact rfl
theorem k52_openM {w : World} {base : Nat} {ok : Nat → Prop} {x : S52} {cs : List Value} (h : k52.M w base ok x cs) : cs = [.int .i64 x.f0, .int .i64 x.f1, .int .i64 x.f2, .int .i64 x.f3, .int .i64 x.f4] := by
 obtain ⟨_, _, rfl, rfl, ⟨_, _, rfl, rfl, ⟨_, _, rfl, rfl, ⟨_, _, rfl, rfl, rfl⟩⟩⟩⟩ := h
 exact rfl
theorem k52_mkM (w : World) (base : Nat) (ok : Nat → Prop) (x : S52)  : k52.M w base ok x [.int .i64 x.f0, .int .i64 x.f1, .int .i64 x.f2, .int .i64 x.f3, .int .i64 x.f4] := ⟨[.int .i64 x.f0], [.int .i64 x.f1, .int .i64 x.f2, .int .i64 x.f3, .int .i64 x.f4], rfl, rfl, ⟨[.int .i64 x.f1], [.int .i64 x.f2, .int .i64 x.f3, .int .i64 x.f4], rfl, rfl, ⟨[.int .i64 x.f2], [.int .i64 x.f3, .int .i64 x.f4], rfl, rfl, ⟨[.int .i64 x.f3], [.int .i64 x.f4], rfl, rfl, rfl⟩⟩⟩⟩
def rd_T52 (xs : List S52) (i : Int) : S52 := xs.getD i.toNat z52
theorem at_T52 {w : World} {A : Option Addr} {n : Nat} {xs : List S52} (h : Kd.C k52 w A n xs) (i : Int) (h0 : 0 ≤ i) (h1 : i < n) : ∃ ad , A = some ad ∧ w.cell? (ad.add (i.toNat * 5)) = some (.int .i64 (rd_T52 xs i).f0) ∧ w.cell? ⟨(ad.add (i.toNat * 5)).block, (ad.add (i.toNat * 5)).off + 1, none⟩ = some (.int .i64 (rd_T52 xs i).f1) ∧ w.cell? ⟨(ad.add (i.toNat * 5)).block, (ad.add (i.toNat * 5)).off + 2, none⟩ = some (.int .i64 (rd_T52 xs i).f2) ∧ w.cell? ⟨(ad.add (i.toNat * 5)).block, (ad.add (i.toNat * 5)).off + 3, none⟩ = some (.int .i64 (rd_T52 xs i).f3) ∧ w.cell? ⟨(ad.add (i.toNat * 5)).block, (ad.add (i.toNat * 5)).off + 4, none⟩ = some (.int .i64 (rd_T52 xs i).f4) := by
 obtain ⟨ad, c, e, _, hK, aa⟩ := Kd.C_get h z52 i h0 h1
 have hc : ∀ j u, c[j]? = some u → w.cell? (ad.add (i.toNat * 5 + j)) = some u := aa
 obtain rfl := k52_open hK
 exact ⟨ad, e, hc 0 _ rfl, by rw [← add_field _ _ 1 (by omega)]; exact hc 1 _ rfl, by rw [← add_field _ _ 2 (by omega)]; exact hc 2 _ rfl, by rw [← add_field _ _ 3 (by omega)]; exact hc 3 _ rfl, by rw [← add_field _ _ 4 (by omega)]; exact hc 4 _ rfl⟩

def rd_L3 (xs : List (List S52)) (i : Int) : (List S52) := xs.getD i.toNat ([] : List S52)
theorem at_L3 {w : World} {A : Option Addr} {n : Nat} {xs : List (List S52)} (h : Kd.C (Kd.slice 52 k52) w A n xs) (i : Int) (h0 : 0 ≤ i) (h1 : i < n) : ∃ ad A0 c0, A = some ad ∧ w.cell? (ad.add i.toNat) = some (.slice A0 (rd_L3 xs i).length c0) ∧ (rd_L3 xs i).length ≤ c0 ∧ k52.C w A0 (rd_L3 xs i).length (rd_L3 xs i) := by
 obtain ⟨ad, c, e, _, hK, aa⟩ := Kd.C_get h ([] : List S52) i h0 h1
 have hc : ∀ j u, c[j]? = some u → w.cell? (ad.add (i.toNat * 1 + j)) = some u := aa
 obtain ⟨A0, c0, rfl, l0, g0⟩ := hK
 exact ⟨ad, A0, c0, e, by have hq := hc 0 _ rfl; rwa [Nat.mul_one, Nat.add_zero] at hq, l0, g0⟩

/-! #### struct type 116 -/
structure S116 where
 f0 : Int
 f1 : Int
def z116 : S116 := ⟨(0 : Int), (0 : Int)⟩
def k116 : Kd S116 := Kd.iso (Kd.pair (Kd.int .i64) (Kd.int .i64)) (fun x : S116 => (x.f0, x.f1))
theorem k116_open {w : World} {x : S116} {cs : List Value} (h : k116.K w x cs) : cs = [.int .i64 x.f0, .int .i64 x.f1] := by
 obtain ⟨_, _, rfl, rfl, rfl⟩ := h
 exact rfl
theorem k116_mkM (w : World) (base : Nat) (ok : Nat → Prop) (x : S116)  : k116.M w base ok x [.int .i64 x.f0, .int .i64 x.f1] := ⟨[.int .i64 x.f0], [.int .i64 x.f1], rfl, rfl, rfl⟩
def rd_T116 (xs : List S116) (i : Int) : S116 := xs.getD i.toNat z116
theorem at_T116 {w : World} {A : Option Addr} {n : Nat} {xs : List S116} (h : Kd.C k116 w A n xs) (i : Int) (h0 : 0 ≤ i) (h1 : i < n) : ∃ ad , A = some ad ∧ w.cell? (ad.add (i.toNat * 2)) = some (.int .i64 (rd_T116 xs i).f0) ∧ w.cell? ⟨(ad.add (i.toNat * 2)).block, (ad.add (i.toNat * 2)).off + 1, none⟩ = some (.int .i64 (rd_T116 xs i).f1) := by
 obtain ⟨ad, c, e, _, hK, aa⟩ := Kd.C_get h z116 i h0 h1
 have hc : ∀ j u, c[j]? = some u → w.cell? (ad.add (i.toNat * 2 + j)) = some u := aa
 obtain rfl := k116_open hK
 exact ⟨ad, e, hc 0 _ rfl, by rw [← add_field _ _ 1 (by omega)]; exact hc 1 _ rfl⟩

/-! #### struct type 103 -/
structure S103 where
 f0 : Int
 f1 : Int
def z103 : S103 := ⟨(0 : Int), (0 : Int)⟩
def k103 : Kd S103 := Kd.iso (Kd.pair (Kd.int .i64) (Kd.int .i64)) (fun x : S103 => (x.f0, x.f1))
theorem k103_open {w : World} {x : S103} {cs : List Value} (h : k103.K w x cs) : cs = [.int .i64 x.f0, .int .i64 x.f1] := by
 obtain ⟨_, _, rfl, rfl, rfl⟩ := h
 exact rfl
theorem k103_mkM (w : World) (base : Nat) (ok : Nat → Prop) (x : S103)  : k103.M w base ok x [.int .i64 x.f0, .int .i64 x.f1] := ⟨[.int .i64 x.f0], [.int .i64 x.f1], rfl, rfl, rfl⟩
def rd_T103 (xs : List S103) (i : Int) : S103 := xs.getD i.toNat z103
theorem at_T103 {w : World} {A : Option Addr} {n : Nat} {xs : List S103} (h : Kd.C k103 w A n xs) (i : Int) (h0 : 0 ≤ i) (h1 : i < n) : ∃ ad , A = some ad ∧ w.cell? (ad.add (i.toNat * 2)) = some (.int .i64 (rd_T103 xs i).f0) ∧ w.cell? ⟨(ad.add (i.toNat * 2)).block, (ad.add (i.toNat * 2)).off + 1, none⟩ = some (.int .i64 (rd_T103 xs i).f1) := by
 obtain ⟨ad, c, e, _, hK, aa⟩ := Kd.C_get h z103 i h0 h1
 have hc : ∀ j u, c[j]? = some u → w.cell? (ad.add (i.toNat * 2 + j)) = some u := aa
 obtain rfl := k103_open hK
 exact ⟨ad, e, hc 0 _ rfl, by rw [← add_field _ _ 1 (by omega)]; exact hc 1 _ rfl⟩

/-! #### struct type 76 -/
structure S76 where
 f0 : Int
 f1 : Int
def z76 : S76 := ⟨(0 : Int), (0 : Int)⟩
def k76 : Kd S76 := Kd.iso (Kd.pair (Kd.int .i64) (Kd.int .i64)) (fun x : S76 => (x.f0, x.f1))
theorem k76_open {w : World} {x : S76} {cs : List Value} (h : k76.K w x cs) : cs = [.int .i64 x.f0, .int .i64 x.f1] := by
 obtain ⟨_, _, rfl, rfl, rfl⟩ := h
 exact rfl
theorem k76_mkM (w : World) (base : Nat) (ok : Nat → Prop) (x : S76)  : k76.M w base ok x [.int .i64 x.f0, .int .i64 x.f1] := ⟨[.int .i64 x.f0], [.int .i64 x.f1], rfl, rfl, rfl⟩
def rd_T76 (xs : List S76) (i : Int) : S76 := xs.getD i.toNat z76
theorem at_T76 {w : World} {A : Option Addr} {n : Nat} {xs : List S76} (h : Kd.C k76 w A n xs) (i : Int) (h0 : 0 ≤ i) (h1 : i < n) : ∃ ad , A = some ad ∧ w.cell? (ad.add (i.toNat * 2)) = some (.int .i64 (rd_T76 xs i).f0) ∧ w.cell? ⟨(ad.add (i.toNat * 2)).block, (ad.add (i.toNat * 2)).off + 1, none⟩ = some (.int .i64 (rd_T76 xs i).f1) := by
 obtain ⟨ad, c, e, _, hK, aa⟩ := Kd.C_get h z76 i h0 h1
 have hc : ∀ j u, c[j]? = some u → w.cell? (ad.add (i.toNat * 2 + j)) = some u := aa
 obtain rfl := k76_open hK
 exact ⟨ad, e, hc 0 _ rfl, by rw [← add_field _ _ 1 (by omega)]; exact hc 1 _ rfl⟩

theorem eqA52 (d : Nat) (w : World) (x0 y0 : Int) (x1 y1 : Int) (x2 y2 : Int) (x3 y3 : Int) (x4 y4 : Int) :
  (Op.equalIn (d + 2) 52 (.agg #[.int .i64 x0, .int .i64 x1, .int .i64 x2, .int .i64 x3, .int .i64 x4]) (.agg #[.int .i64 y0, .int .i64 y1, .int .i64 y2, .int .i64 y3, .int .i64 y4])).run Try.prog w = .ok (x0 == y0 && (x1 == y1 && (x2 == y2 && (x3 == y3 && (x4 == y4))))) w := by
 refine eqA_of Try.underlying52 (by kernel_rfl) ?_
 refine eqf_cons (by rfl) (by go_simp; rfl) (by go_simp; rfl) (by go_simp) ?_
 refine eqf_cons (by rfl) (by go_simp; rfl) (by go_simp; rfl) (by go_simp) ?_
 refine eqf_cons (by rfl) (by go_simp; rfl) (by go_simp; rfl) (by go_simp) ?_
 refine eqf_cons (by rfl) (by go_simp; rfl) (by go_simp; rfl) (by go_simp) ?_
 exact eqf_last (by rfl) (by go_simp; rfl) (by go_simp; rfl) (by go_simp)
theorem eqA116 (d : Nat) (w : World) (x0 y0 : Int) (x1 y1 : Int) :
  (Op.equalIn (d + 2) 116 (.agg #[.int .i64 x0, .int .i64 x1]) (.agg #[.int .i64 y0, .int .i64 y1])).run Try.prog w = .ok (x0 == y0 && (x1 == y1)) w := by
 refine eqA_of Try.underlying116 (by kernel_rfl) ?_
 refine eqf_cons (by rfl) (by go_simp; rfl) (by go_simp; rfl) (by go_simp) ?_
 exact eqf_last (by rfl) (by go_simp; rfl) (by go_simp; rfl) (by go_simp)
/-! ### laws_big: function 10 -/
def laws_big.f (l0 : List Int) : Option (Bool) := some (decide ((l0.length : Int) > 1048576))
theorem laws_big.calls (A0 : Option Addr) (c0 : Nat) (l0 : List Int) (r : Bool) (w : World) (aa : Kd.C (Kd.int .u8) w A0 l0.length l0) (ab : l0.length ≤ c0) (h : laws_big.f l0 = some r) :
  Calls Try.prog 10 #[.slice A0 l0.length c0] w fun e w' => e = .returned (.bool r) ∧ Drawn0 w w' := by
 have ac := AM_ aa
 have ae := AM_ ab
 clear aa ab
 unfold laws_big.f at h
 have H := h
 clear h
 obtain rfl := SI H
 go_enter Try.func10, Try.ntmps10
 go_wp2
 go_ret
 exact ⟨by first | rfl | (simp; done) | (simp [*]; done), by repeat (first | exact Drawn0.refl _ | apply Drawn0.step)⟩

/-- A state of type 164 at block g of W; what its slices lead to came in by w0. -/
def IsS164 (w0 W : World) (g : Nat) (f0 : List Int) (f1 : Int) (f2 : Int) : Prop := ∃ A0 c0, W.heap[g]? = some (.cells #[.slice A0 f0.length c0, .int .i64 f1, .int .i64 f2] 164 (0, 0)) ∧ w0.heap.size ≤ g ∧ Kd.C (Kd.int .u8) w0 A0 f0.length f0
theorem IsS164.grown {w0 W : World} {g : Nat} {f0 : List Int} {f1 : Int} {f2 : Int} {W1 : World} {row : Option Nat} (h : IsS164 w0 W g f0 f1 f2) (hw : W.grownBy W1 row) (hne : some g ≠ row) : IsS164 w0 W1 g f0 f1 f2 := by
 obtain ⟨A0, c0, hb, hg, aa⟩ := h
 exact ⟨A0, c0, blk_grown hb hw hne, hg, aa⟩
theorem IsS164.own_neN {w0 W : World} {g : Nat} {f0 : List Int} {f1 : Int} {f2 : Int} {α : Type} {d : Kd α} {e : Nat} {base : Nat} {ok : Nat → Prop} {v : Value} {xs : List α} (h : IsS164 w0 W g f0 f1 f2) (ho : Kd.N d e W base ok v xs) (ht : e ≠ 164) : some g ≠ v.ownBlock := by
 obtain ⟨A0, c0, hb, hg, aa⟩ := h
 exact Kd.N_ne ho hb ht
theorem IsS164.fresh {w0 W : World} {g : Nat} {f0 : List Int} {f1 : Int} {f2 : Int} (h : IsS164 w0 W g f0 f1 f2) : ∀ k, W.heap.size ≤ k → k ≠ g := by
 obtain ⟨A0, c0, hb, hg, aa⟩ := h
 exact Kd.freshB hb
theorem IsS164.kept {w0 W : World} {g : Nat} {f0 : List Int} {f1 : Int} {f2 : Int} {W1 : World} {S : Nat → Prop} (h : IsS164 w0 W g f0 f1 f2) (hk : Kept W W1 S) (hne : ¬ S g) : IsS164 w0 W1 g f0 f1 f2 := by
 obtain ⟨A0, c0, hb, hg, aa⟩ := h
 exact ⟨A0, c0, blk_kept hb hk hne, hg, aa⟩
theorem IsS164.below {w0 W : World} {g : Nat} {f0 : List Int} {f1 : Int} {f2 : Int} {W1 : World} (h : IsS164 w0 W g f0 f1 f2) (hw : Below W.heap.size W W1) : IsS164 w0 W1 g f0 f1 f2 := h.grown (grown_of_below hw none) (by simp)
theorem IsS164.alloc {w0 W : World} {g : Nat} {f0 : List Int} {f1 : Int} {f2 : Int} (h : IsS164 w0 W g f0 f1 f2) (o : Obj) : IsS164 w0 (W.alloc o) g f0 f1 f2 := h.below (below_alloc (Below.refl _ _) o)
theorem IsS164.drewN {w0 W : World} {g : Nat} {f0 : List Int} {f1 : Int} {f2 : Int} (h : IsS164 w0 W g f0 f1 f2) (m : Nat) : IsS164 w0 (W.drewN m) g f0 f1 f2 := h
theorem IsS164.drew {w0 W : World} {g : Nat} {f0 : List Int} {f1 : Int} {f2 : Int} (h : IsS164 w0 W g f0 f1 f2) : IsS164 w0 W.drew g f0 f1 f2 := h
theorem IsS164.at_ {w0 W : World} {g : Nat} {f0 : List Int} {f1 : Int} {f2 : Int} {w' : World} {m : Nat} (hq : W.drewN m = w') (h : IsS164 w0 W g f0 f1 f2) : IsS164 w0 w' g f0 f1 f2 := by subst hq; exact IsS164.drewN h m
theorem IsS164.apart {w0 W : World} {g : Nat} {f0 : List Int} {f1 : Int} {f2 : Int} {α : Type} {d : Kd α} {e : Nat} {base : Nat} {ok : Nat → Prop} {v : Value} {xs : List α} (h : IsS164 w0 W g f0 f1 f2) (ho : d.R e W base ok v xs) (ht : ∀ q, q ∈ e :: d.E → q ≠ 164) : d.R e W base (fun k => ok k ∧ k ≠ g) v xs := by
 obtain ⟨A0, c0, hb, hg, aa⟩ := h
 exact Kd.R_types ho hb ht
theorem IsS164.own_ne {w0 W : World} {g : Nat} {f0 : List Int} {f1 : Int} {f2 : Int} {α : Type} {d : Kd α} {e : Nat} {base : Nat} {ok : Nat → Prop} {v : Value} {xs : List α} (h : IsS164 w0 W g f0 f1 f2) (ho : d.R e W base ok v xs) (ht : e ≠ 164) : some g ≠ v.ownBlock := by
 obtain ⟨A0, c0, hb, hg, aa⟩ := h
 exact Kd.R_ne ho hb ht
theorem IsS164.apartQ {w0 W : World} {g : Nat} {f0 : List Int} {f1 : Int} {f2 : Int} {α : Type} {d : Kd α} {e : Nat} {base : Nat} {ok : Nat → Prop} {v : Value} {xs : List α} (h : IsS164 w0 W g f0 f1 f2) (ho : d.Q e W base ok v xs) (ht : ∀ q, q ∈ e :: d.E → q ≠ 164) : d.Q e W base (fun k => ok k ∧ k ≠ g) v xs := by
 obtain ⟨A0, c0, hb, hg, aa⟩ := h
 exact Kd.Q_types ho hb ht
theorem IsS164.own_neQ {w0 W : World} {g : Nat} {f0 : List Int} {f1 : Int} {f2 : Int} {α : Type} {d : Kd α} {e : Nat} {base : Nat} {ok : Nat → Prop} {v : Value} {xs : List α} (h : IsS164 w0 W g f0 f1 f2) (ho : d.Q e W base ok v xs) (ht : e ≠ 164) : some g ≠ v.ownBlock := by
 obtain ⟨A0, c0, hb, hg, aa⟩ := h
 exact Kd.Q_ne ho hb ht
theorem IsS164.apartS {w0 W : World} {g : Nat} {f0 : List Int} {f1 : Int} {f2 : Int} {α : Type} {d : Kd α} {e : Nat} {base : Nat} {ok : Nat → Prop} {v : Value} {xs : List α} (h : IsS164 w0 W g f0 f1 f2) (ho : d.S e W base ok v xs) (ht : ∀ q, q ∈ e :: d.E → q ≠ 164) : d.S e W base (fun k => ok k ∧ k ≠ g) v xs := by
 obtain ⟨A0, c0, hb, hg, aa⟩ := h
 exact Kd.S_types ho hb ht
theorem IsS164.own_neS {w0 W : World} {g : Nat} {f0 : List Int} {f1 : Int} {f2 : Int} {α : Type} {d : Kd α} {e : Nat} {base : Nat} {ok : Nat → Prop} {v : Value} {xs : List α} (h : IsS164 w0 W g f0 f1 f2) (ho : d.S e W base ok v xs) (ht : e ≠ 164) : some g ≠ v.ownBlock := by
 obtain ⟨A0, c0, hb, hg, aa⟩ := h
 exact Kd.S_ne ho hb ht
theorem IsS164.lt {w0 W : World} {g : Nat} {f0 : List Int} {f1 : Int} {f2 : Int} (h : IsS164 w0 W g f0 f1 f2) : g < W.heap.size := by
 obtain ⟨A0, c0, hb, hg, aa⟩ := h
 exact blk_lt hb
theorem IsS164.ge {w0 W : World} {g : Nat} {f0 : List Int} {f1 : Int} {f2 : Int} (h : IsS164 w0 W g f0 f1 f2) : w0.heap.size ≤ g := by
 obtain ⟨A0, c0, hb, hg, aa⟩ := h
 exact hg
theorem IsS164.ne_blk {w0 W : World} {g : Nat} {f0 : List Int} {f1 : Int} {f2 : Int} {a : Nat} {cs : Array Value} {t : TypeId} {fr : Nat × Nat} (h : IsS164 w0 W g f0 f1 f2) (hb2 : W.heap[a]? = some (.cells cs t fr)) (ht : t ≠ 164) : g ≠ a := by
 obtain ⟨A0, c0, hb, hg, aa⟩ := h
 rintro rfl
 rw [hb] at hb2
 injection hb2 with hb2
 injection hb2 with _ ht2
 exact ht ht2.symm
theorem IsS164.far {w0 W : World} {g : Nat} {f0 : List Int} {f1 : Int} {f2 : Int} {p : Addr} (h : IsS164 w0 W g f0 f1 f2) (hne : g ≠ p.block) (u : Value) : IsS164 w0 (W.setCell p u) g f0 f1 f2 := by
 obtain ⟨A0, c0, hb, hg, aa⟩ := h
 exact ⟨A0, c0, blk_far hb hne u, hg, aa⟩
theorem cellS164_0 {W : World} {g : Nat} {A0 : Option Addr} {c0 : Nat} {f0 : List Int} {f1 : Int} {f2 : Int} (h : W.heap[g]? = some (.cells #[.slice A0 f0.length c0, .int .i64 f1, .int .i64 f2] 164 (0, 0))) : W.cell? ⟨g, 0, none⟩ = some (.slice A0 f0.length c0) := (blk_cell h 0).trans rfl
theorem cellS164_1 {W : World} {g : Nat} {A0 : Option Addr} {c0 : Nat} {f0 : List Int} {f1 : Int} {f2 : Int} (h : W.heap[g]? = some (.cells #[.slice A0 f0.length c0, .int .i64 f1, .int .i64 f2] 164 (0, 0))) : W.cell? ⟨g, 1, none⟩ = some (.int .i64 f1) := (blk_cell h 1).trans rfl
theorem IsS164.set_1 {w0 W : World} {g : Nat} {f0 : List Int} {f1 : Int} {f2 : Int} (h : IsS164 w0 W g f0 f1 f2) (x : Int) : IsS164 w0 (W.setCell ⟨g, 1, none⟩ (.int .i64 x)) g f0 x f2 := by
 obtain ⟨A0, c0, hb, hg, aa⟩ := h
 exact ⟨A0, c0, by simpa using blk_set hb 1 (.int .i64 x), hg, aa⟩
theorem cellS164_2 {W : World} {g : Nat} {A0 : Option Addr} {c0 : Nat} {f0 : List Int} {f1 : Int} {f2 : Int} (h : W.heap[g]? = some (.cells #[.slice A0 f0.length c0, .int .i64 f1, .int .i64 f2] 164 (0, 0))) : W.cell? ⟨g, 2, none⟩ = some (.int .i64 f2) := (blk_cell h 2).trans rfl
theorem IsS164.set_2 {w0 W : World} {g : Nat} {f0 : List Int} {f1 : Int} {f2 : Int} (h : IsS164 w0 W g f0 f1 f2) (x : Int) : IsS164 w0 (W.setCell ⟨g, 2, none⟩ (.int .i64 x)) g f0 f1 x := by
 obtain ⟨A0, c0, hb, hg, aa⟩ := h
 exact ⟨A0, c0, by simpa using blk_set hb 2 (.int .i64 x), hg, aa⟩
theorem IsS164.new (w0 W : World) (A0 : Option Addr) (c0 : Nat) (f0 : List Int) (f1 : Int) (f2 : Int) (hB : Below w0.heap.size w0 W) (aa : Kd.C (Kd.int .u8) w0 A0 f0.length f0) : IsS164 w0 (W.alloc (.cells #[.slice A0 f0.length c0, .int .i64 f1, .int .i64 f2] 164)) W.heap.size f0 f1 f2 := ⟨A0, c0, by simpa using heap_alloc_new W _, hB.size, aa⟩

section
variable {w0 W W1 w2 V : World} {g : Nat} {a0 : List Int} {a1 : Int} {a2 : Int}
theorem IZ {b0 : List Int} {b1 : Int} {b2 : Int} (h : Aside0 (IsS164 w0 W g a0 a1 a2)) (e : IsS164 w0 W g a0 a1 a2 → IsS164 w0 W1 g b0 b1 b2 := by intro h; repeat (first | (with_reducible first | exact h | apply IsS164.alloc | apply IsS164.drewN | apply IsS164.drew | apply IsS164.set_1 | apply IsS164.set_2 | refine IsS164.far ?_ (Aside0.out (by assumption)) _) | exact h)) : IsS164 w0 W1 g b0 b1 b2 := e h.out
theorem IB (h : Aside0 (IsS164 w0 W g a0 a1 a2)) (hb : Below W1.heap.size W1 w2) (e : IsS164 w0 W g a0 a1 a2 → IsS164 w0 W1 g a0 a1 a2 := by intro h; repeat (first | (with_reducible first | exact h | apply IsS164.alloc | apply IsS164.drewN | apply IsS164.drew | apply IsS164.set_1 | apply IsS164.set_2 | refine IsS164.far ?_ (Aside0.out (by assumption)) _) | exact h)) : Aside0 (IsS164 w0 w2 g a0 a1 a2) := ⟨IsS164.below (e h.out) hb⟩
theorem BZ1 (h : Aside0 (Below w0.heap.size w0 W)) (hi : Aside0 (IsS164 w0 V g a0 a1 a2)) (e : w0.heap.size ≤ g → Below w0.heap.size w0 W → Below w0.heap.size w0 W1 := by intro hq h; repeat (first | (with_reducible first | exact h | apply below_alloc | apply pw_below_drewN | apply below_drew1 | refine below_set ?_ hq | refine below_set ?_ (Aside0.out (by assumption))) | exact h)) : Below w0.heap.size w0 W1 := e (IsS164.ge hi.out) h.out
theorem BW1 (h : Aside0 (Below w0.heap.size w0 W)) (hi : Aside0 (IsS164 w0 V g a0 a1 a2)) (hb : Below W1.heap.size W1 w2) (e : w0.heap.size ≤ g → Below w0.heap.size w0 W → Below w0.heap.size w0 W1 := by intro hq h; repeat (first | (with_reducible first | exact h | apply below_alloc | apply pw_below_drewN | apply below_drew1 | refine below_set ?_ hq | refine below_set ?_ (Aside0.out (by assumption))) | exact h)) : Aside0 (Below w0.heap.size w0 w2) := ⟨below_step (e (IsS164.ge hi.out) h.out) hb⟩
theorem RK1 {α : Type} {d : Kd α} {e base : Nat} {ok : Nat → Prop} {v : Value} {xs : List α} (h : Aside0 (Kd.R d e W base ok v xs)) (hi : Aside0 (IsS164 w0 V g a0 a1 a2)) (hk : KeepBut W1 w2 g none) (ei : IsS164 w0 V g a0 a1 a2 → IsS164 w0 W1 g a0 a1 a2 := by intro h; repeat (first | (with_reducible first | exact h | apply IsS164.alloc | apply IsS164.drewN | apply IsS164.drew | apply IsS164.set_1 | apply IsS164.set_2 | refine IsS164.far ?_ (Aside0.out (by assumption)) _) | exact h)) (er : Kd.R d e W base ok v xs → Kd.R d e W1 base ok v xs := by intro h; (with_reducible repeat (first | apply Kd.R_alloc | apply Kd.R_drewN | apply Kd.R_drew)); exact h) (ht : ∀ q, q ∈ e :: d.E → q ≠ 164 := by decide) : Aside0 (Kd.R d e w2 base ok v xs) := ⟨Kd.R_mono (Kd.R_keep (IsS164.apart (ei hi.out) (er h.out) ht) hk (fun _ h => h.2)) (fun _ h => h.1)⟩
theorem SK1 {α : Type} {d : Kd α} {e base : Nat} {ok : Nat → Prop} {v : Value} {xs : List α} (h : Aside0 (Kd.S d e W base ok v xs)) (hi : Aside0 (IsS164 w0 V g a0 a1 a2)) (hk : KeepBut W1 w2 g none) (ei : IsS164 w0 V g a0 a1 a2 → IsS164 w0 W1 g a0 a1 a2 := by intro h; repeat (first | (with_reducible first | exact h | apply IsS164.alloc | apply IsS164.drewN | apply IsS164.drew | apply IsS164.set_1 | apply IsS164.set_2 | refine IsS164.far ?_ (Aside0.out (by assumption)) _) | exact h)) (er : Kd.S d e W base ok v xs → Kd.S d e W1 base ok v xs := by intro h; (with_reducible repeat (first | apply Kd.S_alloc | apply Kd.S_drewN | apply Kd.S_drew)); exact h) (ht : ∀ q, q ∈ e :: d.E → q ≠ 164 := by decide) : Aside0 (Kd.S d e w2 base ok v xs) := ⟨Kd.S_mono (Kd.S_keep (IsS164.apartS (ei hi.out) (er h.out) ht) hk (fun _ h => h.2)) (fun _ h => h.1)⟩
end
theorem NI {w0 W W1 : World} {g gb : Nat} {a0 : List Int} {a1 : Int} {a2 : Int} (h : Aside0 (IsS164 w0 W g a0 a1 a2)) (hg : gb = W1.heap.size) (e : IsS164 w0 W g a0 a1 a2 → IsS164 w0 W1 g a0 a1 a2 := by intro h; repeat (first | (with_reducible first | exact h | apply IsS164.alloc | apply IsS164.drewN | apply IsS164.drew | apply IsS164.set_1 | apply IsS164.set_2 | refine IsS164.far ?_ (Aside0.out (by assumption)) _) | exact h)) : Aside0 (g ≠ gb) := ⟨by rw [hg]; exact Nat.ne_of_lt (IsS164.lt (e h.out))⟩
theorem NJ {w0 W W1 : World} {g gb : Nat} {a0 : List Int} {a1 : Int} {a2 : Int} (h : Aside0 (IsS164 w0 W g a0 a1 a2)) (hg : gb = W1.heap.size) (e : IsS164 w0 W g a0 a1 a2 → IsS164 w0 W1 g a0 a1 a2 := by intro h; repeat (first | (with_reducible first | exact h | apply IsS164.alloc | apply IsS164.drewN | apply IsS164.drew | apply IsS164.set_1 | apply IsS164.set_2 | refine IsS164.far ?_ (Aside0.out (by assumption)) _) | exact h)) : Aside0 (gb ≠ g) := ⟨by rw [hg]; exact Nat.ne_of_gt (IsS164.lt (e h.out))⟩
/-! ### spec_l1New: function 87 -/
def spec_l1New.l0 : Nat → List Int → Int → Int → Option (List Int × Int × Int)
 | 0, _, _, _ => none
 | k + 1, x0, x3, x4 => if x4 < (x0.length : Int) then (if x4 < 4000 then (if 0 ≤ x4 then (spec_l1New.l0 k x0 (Go.bits .and .i64 (wrap64 ((wrap64 ((wrap64 (x3 * 131)) + (wrap64 (rd x0 x4)))) + 7)) 1073741823) (wrap64 (x4 + 1))) else (none)) else (some (x0, 0, x3))) else (some (x0, 0, x3))
def spec_l1New.f (k : Nat) (l0 : List Int) : Option (List Int × Int × Int) := spec_l1New.l0 k l0 (wrap64 (10101 + (l0.length : Int))) 0
theorem spec_l1New.mono_l : ∀ k, (∀ y0 y1 y2, LeO (spec_l1New.l0 k y0 y1 y2) (spec_l1New.l0 (k + 1) y0 y1 y2))
 | 0 => fun _ _ _ r h => by simp [spec_l1New.l0] at h
 | k + 1 => by
  have aa := spec_l1New.mono_l k
  all_goals intros; unfold spec_l1New.l0
  all_goals repeat' (with_reducible first | exact aa .. | exact LeO.refl _ | exact LeO.none _ | refine LeO.ite ?_ ?_ | refine LeO.bind ?_ (fun _ => ?_))
theorem spec_l1New.mono : ∀ a0 k, LeO (spec_l1New.f k a0) (spec_l1New.f (k + 1) a0) := by
 intro a0 k
 have aa := spec_l1New.mono_l k
 unfold spec_l1New.f
 repeat' (with_reducible first | exact aa .. | exact LeO.refl _ | exact LeO.none _ | refine LeO.ite ?_ ?_ | refine LeO.bind ?_ (fun _ => ?_))
theorem spec_l1New.calls (k : Nat) (A0 : Option Addr) (c0 : Nat) (l0 : List Int) (r1 : List Int) (r2 : Int) (r3 : Int) (w0 w : World) (hB : Below w0.heap.size w0 w) (aq : Kd.C (Kd.int .u8) w0 A0 l0.length l0) (ar : l0.length ≤ c0) (h : spec_l1New.f k l0 = some (r1, r2, r3)) :
  Calls Try.prog 87 #[.slice A0 l0.length c0] w fun e w' => ∃ g_ : Nat, e = .returned (.pointer (some ⟨g_, 0, none⟩)) ∧ IsS164 w0 w' g_ r1 r2 r3 ∧ Below w0.heap.size w0 w' ∧ Below w.heap.size w w' ∧ w.heap.size ≤ g_ := by
 have au := Try.underlying164
 have am := AM_ aq
 have ay := AM_ ar
 clear aq ar
 have HBW := AM_ (Below.refl w.heap.size w)
 have HW0 := AM_ hB.size
 have HB := AM_ hB
 clear hB
 have H : (spec_l1New.l0 k l0 (wrap64 (10101 + (l0.length : Int))) 0) = some (r1, r2, r3) := h
 clear h
 have H' := AM_ H
 clear H
 go_enter Try.func87, Try.ntmps87
 go_wp2
 go_loopg [3, 4] k (fun kq v3 v4 w' => ∃ (ab : Int) (aa : Int), v3 = .int .i64 ab ∧ v4 = .int .i64 aa ∧ Aside0 (spec_l1New.l0 kq l0 ab aa = some (r1, r2, r3)) ∧ Aside0 (kq ≤ k) ∧ Aside0 (Below w0.heap.size w0 w') ∧ Aside0 (Below w.heap.size w w'))
 case atStart => exact ⟨(wrap64 (10101 + (l0.length : Int))), (0), (by first | rfl | (simp; done) | (simp [*]; done)), (by first | rfl | (simp; done) | (simp [*]; done)), H', ⟨Nat.le_refl _⟩, ⟨BT HB.out⟩, ⟨BZ0 HBW⟩⟩
 case round =>
  clear H'
  obtain ⟨ab, aa, rfl, rfl, HA, av, HB, HBW⟩ := hrel
  cases gk with
  | zero => exact absurd HA.out (by simp [spec_l1New.l0])
  | succ k1 =>
   have H := HA.out
   clear HA
   simp only [spec_l1New.l0] at H
   by_cases c2 : aa < (l0.length : Int)
   rotate_left
   ·rw [if_neg c2] at H
    have an := decide_eq_false c2
    clear c2
    simp only [Option.some.injEq, Prod.mk.injEq] at H
    obtain ⟨rfl, rfl, rfl⟩ := H
    go_wp2_with (first | ((with_reducible refine G2 31 rfl ?_); refine BX 31 #[.slice A0 l0.length c0, .int .i64 0, .int .i64 ab] 164 ?_; intro ac hg w6 hbox hb; replace HB := BW HB hb; have ai := AM_ (hbox); have aj := AM_ ((by rw [hg]; exact (below_size (BZ0 HBW)) : w.heap.size ≤ ac)); have GE103 := AM_ ((Nat.le_trans HW0.out (by rw [hg]; exact (below_size (BZ0 HBW)) : w.heap.size ≤ ac) : w0.heap.size ≤ ac)); replace HBW := AM_ (below_step (BZ0 HBW) hb); clear hb hbox hg))
    go_ret
    exact ⟨_, rfl, (show IsS164 w0 _ ac l0 0 ab from ⟨_, _, BG1 ai, GE103.out, am.out⟩), BT HB.out, BZ0 HBW, aj.out⟩
   rw [if_pos c2] at H
   have an := DE c2
   clear c2
   by_cases c3 : aa < 4000
   ·rw [if_pos c3] at H
    have ao := DE c3
    clear c3
    replace H := HI H
    obtain ⟨c4, H⟩ := H
    have ax := DE c4
    clear c4
    have H' := AM_ H
    clear H
    have ag : 0 ≤ (aa : Int) := DT
    have ah : aa < (l0.length : Int) := DT
    obtain ⟨aw, ap, ae⟩ := Kd.at_int am.out aa ag ah
    cases ap
    replace ae := pw_cell_below HB.out ae
    replace ag := ET ag
    replace ah := ET ah
    go_wp2
    go_roundg k1
    case measure => have := av.out; omega
    case rel => exact ⟨(Go.bits .and .i64 (wrap64 ((wrap64 ((wrap64 (ab * 131)) + (wrap64 (rd l0 aa)))) + 7)) 1073741823), (wrap64 (aa + 1)), (by first | rfl | (simp; done) | (simp [*]; done)), (by first | rfl | (simp; done) | (simp [*]; done)), H', ⟨by have := av.out; omega⟩, ⟨BT HB.out⟩, ⟨BZ0 HBW⟩⟩
   rw [if_neg c3] at H
   have ao := decide_eq_false c3
   clear c3
   simp only [Option.some.injEq, Prod.mk.injEq] at H
   obtain ⟨rfl, rfl, rfl⟩ := H
   go_wp2_with (first | ((with_reducible refine G2 31 rfl ?_); refine BX 31 #[.slice A0 l0.length c0, .int .i64 0, .int .i64 ab] 164 ?_; intro af hg w5 hbox hb; replace HB := BW HB hb; have ak := AM_ (hbox); have al := AM_ ((by rw [hg]; exact (below_size (BZ0 HBW)) : w.heap.size ≤ af)); have GE102 := AM_ ((Nat.le_trans HW0.out (by rw [hg]; exact (below_size (BZ0 HBW)) : w.heap.size ≤ af) : w0.heap.size ≤ af)); replace HBW := AM_ (below_step (BZ0 HBW) hb); clear hb hbox hg))
   go_ret
   exact ⟨_, rfl, (show IsS164 w0 _ af l0 0 ab from ⟨_, _, BG1 ak, GE102.out, am.out⟩), BT HB.out, BZ0 HBW, al.out⟩

/-! ### spec_l1Byte: function 92 -/
def spec_l1Byte.f (s0_0 : List Int) (s0_1 : Int) (s0_2 : Int) : Option (Int × Int × Int) := if s0_1 < (s0_0.length : Int) then (if 0 ≤ s0_1 then (some (Go.bits .and .i64 (wrap64 ((Go.bits .and .i64 (Go.bits .xor .i64 ((wrap64 ((wrap64 (s0_2 * 6364136223846793005)) + 1442695040888963407)) / 8589934592) ((wrap64 ((wrap64 (s0_2 * 6364136223846793005)) + 1442695040888963407)) / 35184372088832)) 255) + (wrap64 (rd s0_0 s0_1)))) 255, wrap64 (s0_1 + 1), wrap64 ((wrap64 (s0_2 * 6364136223846793005)) + 1442695040888963407))) else (none)) else (some (Go.bits .and .i64 (Go.bits .xor .i64 ((wrap64 ((wrap64 (s0_2 * 6364136223846793005)) + 1442695040888963407)) / 8589934592) ((wrap64 ((wrap64 (s0_2 * 6364136223846793005)) + 1442695040888963407)) / 35184372088832)) 255, s0_1, wrap64 ((wrap64 (s0_2 * 6364136223846793005)) + 1442695040888963407)))
theorem spec_l1Byte.calls (g : Nat) (s0_0 : List Int) (s0_1 : Int) (s0_2 : Int) (r1 : Int) (r2 : Int) (r3 : Int) (w0 w : World) (hI : IsS164 w0 w g s0_0 s0_1 s0_2) (hB : Below w0.heap.size w0 w) (h : spec_l1Byte.f s0_0 s0_1 s0_2 = some (r1, r2, r3)) :
  Calls Try.prog 92 #[.pointer (some ⟨g, 0, none⟩)] w fun e w' => e = .returned (.int .i64 r1) ∧ IsS164 w0 w' g s0_0 r2 r3 ∧ Below w0.heap.size w0 w' ∧ KeepBut w w' g none := by
 have ac := AM_ hI
 have HK := AM_ (KeepBut.refl w g none)
 have HL := AM_ hB.size
 clear hI
 have HW0 := AM_ hB.size
 have HB := AM_ hB
 clear hB
 have H : (if s0_1 < (s0_0.length : Int) then (if 0 ≤ s0_1 then (some (Go.bits .and .i64 (wrap64 ((Go.bits .and .i64 (Go.bits .xor .i64 ((wrap64 ((wrap64 (s0_2 * 6364136223846793005)) + 1442695040888963407)) / 8589934592) ((wrap64 ((wrap64 (s0_2 * 6364136223846793005)) + 1442695040888963407)) / 35184372088832)) 255) + (wrap64 (rd s0_0 s0_1)))) 255, wrap64 (s0_1 + 1), wrap64 ((wrap64 (s0_2 * 6364136223846793005)) + 1442695040888963407))) else (none)) else (some (Go.bits .and .i64 (Go.bits .xor .i64 ((wrap64 ((wrap64 (s0_2 * 6364136223846793005)) + 1442695040888963407)) / 8589934592) ((wrap64 ((wrap64 (s0_2 * 6364136223846793005)) + 1442695040888963407)) / 35184372088832)) 255, s0_1, wrap64 ((wrap64 (s0_2 * 6364136223846793005)) + 1442695040888963407)))) = some (r1, r2, r3) := h
 clear h
 by_cases c2 : s0_1 < (s0_0.length : Int)
 rotate_left
 ·rw [if_neg c2] at H
  have ai := decide_eq_false c2
  clear c2
  simp only [Option.some.injEq, Prod.mk.injEq] at H
  obtain ⟨rfl, rfl, rfl⟩ := H
  obtain ⟨ASz5_0, cSz5_0, HGz5, hgz5, HSz5_0⟩ := ac.out
  have aj := cellS164_0 HGz5
  have ak := cellS164_1 HGz5
  have al := cellS164_2 HGz5
  have am := blk_frozen HGz5 1
  have an := blk_frozen HGz5 2
  clear HGz5 hgz5
  go_enter Try.func92, Try.ntmps92
  go_wp2
  repeat (go_quiet (fail); try go_wp2)
  go_ret
  exact ⟨ER, IZ ac, BZ1 HB ac, KZ HK⟩
 rw [if_pos c2] at H
 have ai := DE c2
 clear c2
 replace H := HI H
 obtain ⟨c3, H⟩ := H
 have aw := DE c3
 clear c3
 simp only [Option.some.injEq, Prod.mk.injEq] at H
 obtain ⟨rfl, rfl, rfl⟩ := H
 obtain ⟨ASz4_0, cSz4_0, HGz4, hgz4, HSz4_0⟩ := ac.out
 have ao := cellS164_0 HGz4
 have ap := cellS164_1 HGz4
 have aq := cellS164_2 HGz4
 have ar := blk_frozen HGz4 1
 have au := blk_frozen HGz4 2
 clear HGz4 hgz4
 have ae : 0 ≤ (s0_1 : Int) := DT
 have af : s0_1 < (s0_0.length : Int) := DT
 obtain ⟨ag, av, aa⟩ := Kd.at_int HSz4_0 s0_1 ae af
 cases av
 have ab : ag.block ≠ g := Nat.ne_of_lt (Nat.lt_of_lt_of_le (by have := World.block_lt_of_cell? _ _ aa; first | rwa [add_block] at this | exact this) (IsS164.ge ac.out))
 replace aa := pw_cell_below HB.out aa
 replace aa := (cell_far (p := ⟨g, 2, none⟩) (by first | (rw [add_block]; exact ab) | (show (Addr.add _ _).block ≠ _; rw [add_block]; exact ab) | exact ab) (.int .i64 (wrap64 ((wrap64 (s0_2 * 6364136223846793005)) + 1442695040888963407)))).trans aa
 (try have ah := fun (n_ : Nat) => (show (((w.drewN n_).setCell ⟨g, 2, none⟩ (.int .i64 (wrap64 ((wrap64 (s0_2 * 6364136223846793005)) + 1442695040888963407))))).cell? _ = some _ from aa))
 clear ab
 replace ae := ET ae
 replace af := ET af
 go_enter Try.func92, Try.ntmps92
 go_wp2
 repeat (go_quiet (fail); try go_wp2)
 go_ret
 exact ⟨ER, IZ ac, BZ1 HB ac, KZ HK⟩

/-! ### spec_l1Below: function 54 -/
def spec_l1Below.f (s0_0 : List Int) (s0_1 : Int) (s0_2 : Int) (a1 : Int) : Option (Int × Int × Int) := if a1 ≤ 0 then (some (0, s0_1, s0_2)) else (if a1 ≤ 256 then ((spec_l1Byte.f s0_0 s0_1 s0_2).bind fun bt105 => (if a1 = 0 then (none) else (some (Int.tmod bt105.1 a1, bt105.2.1, bt105.2.2)))) else ((spec_l1Byte.f s0_0 s0_1 s0_2).bind fun bt108 => ((spec_l1Byte.f s0_0 bt108.2.1 bt108.2.2).bind fun bt111 => ((spec_l1Byte.f s0_0 bt111.2.1 bt111.2.2).bind fun bt114 => ((spec_l1Byte.f s0_0 bt114.2.1 bt114.2.2).bind fun bt117 => (if a1 = 0 then (none) else (some (Int.tmod (wrap64 ((wrap64 ((wrap64 ((wrap64 (bt108.1 * 16777216)) + (wrap64 (bt111.1 * 65536)))) + (wrap64 (bt114.1 * 256)))) + bt117.1)) a1, bt117.2.1, bt117.2.2))))))))
theorem spec_l1Below.calls (g : Nat) (s0_0 : List Int) (s0_1 : Int) (s0_2 : Int) (a1 : Int) (r1 : Int) (r2 : Int) (r3 : Int) (w0 w : World) (hI : IsS164 w0 w g s0_0 s0_1 s0_2) (hB : Below w0.heap.size w0 w) (h : spec_l1Below.f s0_0 s0_1 s0_2 a1 = some (r1, r2, r3)) :
  Calls Try.prog 54 #[.pointer (some ⟨g, 0, none⟩), .int .i64 a1] w fun e w' => e = .returned (.int .i64 r1) ∧ IsS164 w0 w' g s0_0 r2 r3 ∧ Below w0.heap.size w0 w' ∧ KeepBut w w' g none := by
 have aa := AM_ hI
 have HK := AM_ (KeepBut.refl w g none)
 have HL := AM_ hB.size
 clear hI
 have HW0 := AM_ hB.size
 have HB := AM_ hB
 clear hB
 have H : (if a1 ≤ 0 then (some (0, s0_1, s0_2)) else (if a1 ≤ 256 then ((spec_l1Byte.f s0_0 s0_1 s0_2).bind fun bt105 => (if a1 = 0 then (none) else (some (Int.tmod bt105.1 a1, bt105.2.1, bt105.2.2)))) else ((spec_l1Byte.f s0_0 s0_1 s0_2).bind fun bt108 => ((spec_l1Byte.f s0_0 bt108.2.1 bt108.2.2).bind fun bt111 => ((spec_l1Byte.f s0_0 bt111.2.1 bt111.2.2).bind fun bt114 => ((spec_l1Byte.f s0_0 bt114.2.1 bt114.2.2).bind fun bt117 => (if a1 = 0 then (none) else (some (Int.tmod (wrap64 ((wrap64 ((wrap64 ((wrap64 (bt108.1 * 16777216)) + (wrap64 (bt111.1 * 65536)))) + (wrap64 (bt114.1 * 256)))) + bt117.1)) a1, bt117.2.1, bt117.2.2))))))))) = some (r1, r2, r3) := h
 clear h
 by_cases c3 : a1 ≤ 0
 ·rw [if_pos c3] at H
  have aj := DE c3
  clear c3
  simp only [Option.some.injEq, Prod.mk.injEq] at H
  obtain ⟨rfl, rfl, rfl⟩ := H
  go_enter Try.func54, Try.ntmps54
  go_wp2
  go_ret
  exact ⟨ER, IZ aa, BZ1 HB aa, KZ HK⟩
 rw [if_neg c3] at H
 have aj := decide_eq_false c3
 clear c3
 by_cases c4 : a1 ≤ 256
 ·rw [if_pos c4] at H
  have ak := DE c4
  clear c4
  obtain ⟨⟨al, am, an⟩, A5, H⟩ := OB H
  by_cases c6 : a1 = 0
  ·rw [if_pos c6] at H
   exact absurd H (by simp)
  rw [if_neg c6] at H
  have ax : (a1 == 0) = false := beq_eq_false_iff_ne.mpr c6
  have c6b1 : (a1 != 0) = true := bne_iff_ne.mpr c6
  simp only [Option.some.injEq, Prod.mk.injEq] at H
  obtain ⟨rfl, rfl, rfl⟩ := H
  go_enter Try.func54, Try.ntmps54
  go_wp2_with (first | ((with_reducible refine G1 92 rfl ?_); refine GC (some 14) Try.func92 #[.pointer (some ⟨g, 0, none⟩)] ?_; (with_reducible refine (spec_l1Byte.calls g s0_0 s0_1 s0_2 al am an w0 _ ?side1 ?side2 A5.out).mono ?_); (case side1 => exact IZ aa); (case side2 => exact BZ1 HB aa); rintro e w7 ⟨rfl, hi, hb, hk⟩; refine ⟨_, rfl, ?_⟩; replace HK := KY HK hk; replace HB := AM_ (hb); replace aa := AM_ (hi); (try clear hb)))
  go_ret
  exact ⟨ER, IZ aa, BZ1 HB aa, KZ HK⟩
 rw [if_neg c4] at H
 have ak := decide_eq_false c4
 clear c4
 obtain ⟨⟨ao, ab, ac⟩, A8, H⟩ := OB H
 obtain ⟨⟨ap, ae, af⟩, A9, H⟩ := OB H
 obtain ⟨⟨aq, ag, ah⟩, ay, H⟩ := OB H
 obtain ⟨⟨ar, au, av⟩, az, H⟩ := OB H
 by_cases ai : a1 = 0
 ·rw [if_pos ai] at H
  exact absurd H (by simp)
 rw [if_neg ai] at H
 have aw : (a1 == 0) = false := beq_eq_false_iff_ne.mpr ai
 have c12b1 : (a1 != 0) = true := bne_iff_ne.mpr ai
 simp only [Option.some.injEq, Prod.mk.injEq] at H
 obtain ⟨rfl, rfl, rfl⟩ := H
 go_enter Try.func54, Try.ntmps54
 go_wp2_with (first | ((with_reducible refine G1 92 rfl ?_); refine GC (some 18) Try.func92 #[.pointer (some ⟨g, 0, none⟩)] ?_; (with_reducible refine (spec_l1Byte.calls g s0_0 s0_1 s0_2 ao ab ac w0 _ ?side1 ?side2 A8.out).mono ?_); (case side1 => exact IZ aa); (case side2 => exact BZ1 HB aa); rintro e aA ⟨rfl, hi, hb, hk⟩; refine ⟨_, rfl, ?_⟩; replace HK := KY HK hk; replace HB := AM_ (hb); replace aa := AM_ (hi); (try clear hb)) | ((with_reducible refine G1 92 rfl ?_); refine GC (some 20) Try.func92 #[.pointer (some ⟨g, 0, none⟩)] ?_; (with_reducible refine (spec_l1Byte.calls g s0_0 ab ac ap ae af w0 _ ?side1 ?side2 A9.out).mono ?_); (case side1 => exact IZ aa); (case side2 => exact BZ1 HB aa); rintro e aB ⟨rfl, hi, hb, hk⟩; refine ⟨_, rfl, ?_⟩; replace HK := KY HK hk; replace HB := AM_ (hb); replace aa := AM_ (hi); (try clear hb)) | ((with_reducible refine G1 92 rfl ?_); refine GC (some 22) Try.func92 #[.pointer (some ⟨g, 0, none⟩)] ?_; (with_reducible refine (spec_l1Byte.calls g s0_0 ae af aq ag ah w0 _ ?side1 ?side2 ay.out).mono ?_); (case side1 => exact IZ aa); (case side2 => exact BZ1 HB aa); rintro e aC ⟨rfl, hi, hb, hk⟩; refine ⟨_, rfl, ?_⟩; replace HK := KY HK hk; replace HB := AM_ (hb); replace aa := AM_ (hi); (try clear hb)) | ((with_reducible refine G1 92 rfl ?_); refine GC (some 24) Try.func92 #[.pointer (some ⟨g, 0, none⟩)] ?_; (with_reducible refine (spec_l1Byte.calls g s0_0 ag ah ar au av w0 _ ?side1 ?side2 az.out).mono ?_); (case side1 => exact IZ aa); (case side2 => exact BZ1 HB aa); rintro e aD ⟨rfl, hi, hb, hk⟩; refine ⟨_, rfl, ?_⟩; replace HK := KY HK hk; replace HB := AM_ (hb); replace aa := AM_ (hi); (try clear hb)))
 go_ret
 exact ⟨ER, IZ aa, BZ1 HB aa, KZ HK⟩

/-! ### spec_l1PickInt: function 98 -/
def spec_l1PickInt.f (s0_0 : List Int) (s0_1 : Int) (s0_2 : Int) (l1 : List Int) : Option (Int × Int × Int) := (spec_l1Below.f s0_0 s0_1 s0_2 (l1.length : Int)).bind fun bt120 => (if 0 ≤ bt120.1 then (if bt120.1 < (l1.length : Int) then (some (rd l1 bt120.1, bt120.2.1, bt120.2.2)) else (none)) else (none))
theorem spec_l1PickInt.calls (g : Nat) (s0_0 : List Int) (s0_1 : Int) (s0_2 : Int) (A1 : Option Addr) (c1 : Nat) (l1 : List Int) (r1 : Int) (r2 : Int) (r3 : Int) (w0 w : World) (hI : IsS164 w0 w g s0_0 s0_1 s0_2) (hB : Below w0.heap.size w0 w) (ak : Kd.C (Kd.int .i64) w A1 l1.length l1) (al : l1.length ≤ c1) (hf1 : ∀ ad, A1 = some ad → 0 < l1.length → ad.block ≠ g) (h : spec_l1PickInt.f s0_0 s0_1 s0_2 l1 = some (r1, r2, r3)) :
  Calls Try.prog 98 #[.pointer (some ⟨g, 0, none⟩), .slice A1 l1.length c1] w fun e w' => e = .returned (.int .i64 r1) ∧ IsS164 w0 w' g s0_0 r2 r3 ∧ Below w0.heap.size w0 w' ∧ KeepBut w w' g none := by
 have am := AM_ ak
 have ap := AM_ al
 clear ak al
 have af := AM_ hI
 have HK := AM_ (KeepBut.refl w g none)
 have HL := AM_ hB.size
 clear hI
 have HW0 := AM_ hB.size
 have HB := AM_ hB
 clear hB
 have H : ((spec_l1Below.f s0_0 s0_1 s0_2 (l1.length : Int)).bind fun bt120 => (if 0 ≤ bt120.1 then (if bt120.1 < (l1.length : Int) then (some (rd l1 bt120.1, bt120.2.1, bt120.2.2)) else (none)) else (none))) = some (r1, r2, r3) := h
 clear h
 obtain ⟨⟨ab, ah, ai⟩, A3, H⟩ := OB H
 replace H := HI H
 obtain ⟨c4, H⟩ := H
 have an := DE c4
 clear c4
 replace H := HI H
 obtain ⟨c5, H⟩ := H
 have ao := DE c5
 clear c5
 simp only [Option.some.injEq, Prod.mk.injEq] at H
 obtain ⟨rfl, rfl, rfl⟩ := H
 go_enter Try.func98, Try.ntmps98
 go_wp2_with (first | ((with_reducible refine G1 54 rfl ?_); refine GC (some 9) Try.func54 #[.pointer (some ⟨g, 0, none⟩), .int .i64 (l1.length : Int)] ?_; (with_reducible refine (spec_l1Below.calls g s0_0 s0_1 s0_2 (l1.length : Int) ab ah ai w0 _ ?side1 ?side2 A3.out).mono ?_); (case side1 => exact IZ af); (case side2 => exact BZ1 HB af); rintro e w6 ⟨rfl, hi, hb, hk⟩; refine ⟨_, rfl, ?_⟩; replace HK := KY HK hk; replace HB := AM_ (hb); replace af := AM_ (hi); (try clear hb); have ac : 0 ≤ (ab : Int) := DT; have ae : ab < (l1.length : Int) := DT; obtain ⟨ag, aj, aa⟩ := Kd.at_int am.out ab ac ae; cases aj; replace aa := keep_cell HK.out aa (by first | (rw [add_block]; exact hf1 _ rfl (by omega)) | exact hf1 _ rfl (by omega) | exact hf1 ag rfl (by omega)); replace ac := eq_true ac; replace ae := eq_true ae))
 go_ret
 exact ⟨ER, IZ af, BZ1 HB af, KZ HK⟩

/-! ### spec_l3Chain: function 137 -/
def spec_l3Chain.l0 : Nat → List (S52) → Int → Int → List Int → Int → Int → Option ((List (S52)) × Int × Int)
 | 0, _, _, _, _, _, _ => none
 | k + 1, x3, x4, x5, aa, ac, ae => if x5 > 0 then (if 0 ≤ (wrap64 ((x3.length : Int) - 1)) then (if (wrap64 ((x3.length : Int) - 1)) < (x3.length : Int) then ((spec_l1Below.f aa ac ae 3).bind fun bt131 => ((some (x3.set ((wrap64 ((x3.length : Int) - 1)) : Int).toNat (⟨(rd_T52 x3 (wrap64 ((x3.length : Int) - 1))).f0, (rd_T52 x3 (wrap64 ((x3.length : Int) - 1))).f1, (rd_T52 x3 (wrap64 ((x3.length : Int) - 1))).f2, wrap64 (((rd_T52 x3 (wrap64 ((x3.length : Int) - 1))).f2) + bt131.1), (rd_T52 x3 (wrap64 ((x3.length : Int) - 1))).f4⟩ : S52) : List (S52))).bind fun ab => ((spec_l1Below.f aa bt131.2.1 bt131.2.2 2).bind fun bt136 => ((spec_l1Below.f aa bt136.2.1 bt136.2.2 4).bind fun bt139 => ((some (ab.set ((wrap64 ((x3.length : Int) - 1)) : Int).toNat (⟨(rd_T52 ab (wrap64 ((x3.length : Int) - 1))).f0, (rd_T52 ab (wrap64 ((x3.length : Int) - 1))).f1, (rd_T52 ab (wrap64 ((x3.length : Int) - 1))).f2, (rd_T52 ab (wrap64 ((x3.length : Int) - 1))).f3, mx 1 (wrap64 ((wrap64 ((wrap64 ((mx x4 ((rd_T52 ab (wrap64 ((x3.length : Int) - 1))).f3)) + 1)) + bt136.1)) - bt139.1))⟩ : S52) : List (S52))).bind fun af => ((spec_l1Below.f aa bt139.2.1 bt139.2.2 9).bind fun bt143 => ((spec_l1PickInt.f aa bt143.2.1 bt143.2.2 (([(-1), 0, 5, 7, 42, 99] : List Int))).bind fun bt149 => (if af.length < 3518437208883 then (spec_l3Chain.l0 k (af ++ [(⟨wrap64 (1 + bt143.1), bt149.1, wrap64 ((wrap64 ((mx x4 ((rd_T52 ab (wrap64 ((x3.length : Int) - 1))).f3)) + 1)) + bt136.1), wrap64 ((wrap64 ((mx x4 ((rd_T52 ab (wrap64 ((x3.length : Int) - 1))).f3)) + 1)) + bt136.1), 1000⟩ : S52)]) (wrap64 ((wrap64 ((mx x4 ((rd_T52 ab (wrap64 ((x3.length : Int) - 1))).f3)) + 1)) + bt136.1)) (wrap64 (x5 - 1)) aa bt149.2.1 bt149.2.2) else (none))))))))) else (none)) else (none)) else (some (x3, ac, ae))
def spec_l3Chain.f (k : Nat) (s0_0 : List Int) (s0_1 : Int) (s0_2 : Int) : Option ((List (S52)) × Int × Int) := (spec_l1Below.f s0_0 s0_1 s0_2 5).bind fun bt127 => (spec_l3Chain.l0 k (([(⟨0, (-1), 0, 0, 1000⟩ : S52)] : List (S52))) 0 bt127.1 s0_0 bt127.2.1 bt127.2.2)
theorem spec_l3Chain.mono_l : ∀ k, (∀ y0 y1 y2 y3 y4 y5, LeO (spec_l3Chain.l0 k y0 y1 y2 y3 y4 y5) (spec_l3Chain.l0 (k + 1) y0 y1 y2 y3 y4 y5))
 | 0 => fun _ _ _ _ _ _ r h => by simp [spec_l3Chain.l0] at h
 | k + 1 => by
  have aa := spec_l3Chain.mono_l k
  all_goals intros; unfold spec_l3Chain.l0
  all_goals repeat' (with_reducible first | exact aa .. | exact LeO.refl _ | exact LeO.none _ | refine LeO.ite ?_ ?_ | refine LeO.bind ?_ (fun _ => ?_))
theorem spec_l3Chain.mono : ∀ a0 a1 a2 k, LeO (spec_l3Chain.f k a0 a1 a2) (spec_l3Chain.f (k + 1) a0 a1 a2) := by
 intro a0 a1 a2 k
 have aa := spec_l3Chain.mono_l k
 unfold spec_l3Chain.f
 repeat' (with_reducible first | exact aa .. | exact LeO.refl _ | exact LeO.none _ | refine LeO.ite ?_ ?_ | refine LeO.bind ?_ (fun _ => ?_))
def spec_l3Chain.T7 : Bool × List (List Nat × List Nat) := (true, [([], []), ([], []), ([], []), ([], []), ([2, 3], [2, 3]), ([4], [4]), ([5], [5]), ([], []), ([7], [7]), ([6, 8], [6, 8]), ([0, 1, 0, 1, 2, 3, 4, 5, 6, 7, 8, 9], [0, 1]), ([10, 0, 1, 2, 3, 4, 5, 6, 7, 8, 9], [10]), ([11, 9, 8, 0, 1, 2, 3, 4, 5, 6, 7, 8, 9], [9, 11])])
def spec_l3Chain.B7 : List Nat := [0, 0, 0, 0, 12, 28, 60, 0, 128, 508, 1023, 2047, 4095]
theorem spec_l3Chain.tab7 : rtab .any (opsOf Try.f137 7) = spec_l3Chain.T7 := by kernel_rfl
theorem spec_l3Chain.bits7 : waitsOk spec_l3Chain.T7.2 spec_l3Chain.B7 = true := by kernel_rfl
def spec_l3Chain.T8 : Bool × List (List Nat × List Nat) := (true, [([], []), ([], []), ([], []), ([1, 2], [1, 2]), ([3], [3]), ([4], [4]), ([0, 5], [0, 5]), ([6], [6]), ([], []), ([8], [8]), ([7, 9], [7, 9]), ([10, 9, 0, 1, 2, 3, 4, 5, 6, 7, 8, 9, 10], [0, 10])])
def spec_l3Chain.B8 : List Nat := [0, 0, 0, 6, 14, 30, 63, 127, 0, 256, 1023, 2047]
theorem spec_l3Chain.tab8 : rtab .any (opsOf Try.f137 8) = spec_l3Chain.T8 := by kernel_rfl
theorem spec_l3Chain.bits8 : waitsOk spec_l3Chain.T8.2 spec_l3Chain.B8 = true := by kernel_rfl
theorem spec_l3Chain.calls (k : Nat) (g : Nat) (s0_0 : List Int) (s0_1 : Int) (s0_2 : Int) (r1 : List (S52)) (r2 : Int) (r3 : Int) (w0 w : World) (hI : IsS164 w0 w g s0_0 s0_1 s0_2) (hB : Below w0.heap.size w0 w) (h : spec_l3Chain.f k s0_0 s0_1 s0_2 = some (r1, r2, r3)) :
  Calls Try.prog 137 #[.pointer (some ⟨g, 0, none⟩)] w fun e w' => ∃ cy : Value, e = .returned (cy) ∧ Kd.R k52 52 w' w.heap.size (fun _ => True) cy r1 ∧ IsS164 w0 w' g s0_0 r2 r3 ∧ Below w0.heap.size w0 w' ∧ KeepBut w w' g none := by
 have cE := Try.underlying52
 have ab := AM_ hI
 have HK := AM_ (KeepBut.refl w g none)
 have HL := AM_ hB.size
 clear hI
 have HW0 := AM_ hB.size
 have HB := AM_ hB
 clear hB
 have H : ((spec_l1Below.f s0_0 s0_1 s0_2 5).bind fun bt127 => (spec_l3Chain.l0 k (([(⟨0, (-1), 0, 0, 1000⟩ : S52)] : List (S52))) 0 bt127.1 s0_0 bt127.2.1 bt127.2.2)) = some (r1, r2, r3) := h
 clear h
 obtain ⟨bZ, aN⟩ : ∃ y_ : List (S52), y_ = (([(⟨0, (-1), 0, 0, 1000⟩ : S52)] : List (S52))) := ⟨_, rfl⟩
 rw [← aN] at H
 have a6 := AM_ aN
 clear aN
 obtain ⟨⟨bp, bq, br⟩, A2, H⟩ := OB H
 have H' := AM_ H
 clear H
 go_enter Try.func137, Try.ntmps137
 go_wp2_with (first | ((with_reducible refine G2 8 rfl ?_); refine Kd.R_lit k52 _ 52 ?hg (N := 8) ?hd (xs := ([(⟨0, (-1), 0, 0, 1000⟩ : S52)] : List (S52))) (inner := [.int .i64 0, .int .i64 (-1), .int .i64 0, .int .i64 0, .int .i64 1000]) (ok := fun _ => True) (okp := fun _ => True) ?hr ?hp (fun _ hk => hk) trivial (Below.refl _ _) (Nat.le_refl _) (by simp) ?_; (case hd => rfl); (case hg => rfl); (case hr => first | (go_simp; done) | (go_simp; rfl)); (case hp => exact (Reps.c5 (show Kd.M k52 _ _ _ (⟨0, (-1), 0, 0, 1000⟩ : S52) [.int .i64 0, .int .i64 (-1), .int .i64 0, .int .i64 0, .int .i64 1000] from (k52_mkM _ _ _ (⟨0, (-1), 0, 0, 1000⟩ : S52) )) (Reps.none _ _))); intro cF w3 bu hb hg_ hnew_; clear hg_ hnew_; (first | rw [← a6.out] at bu | (simp only [Int.reduceToNat] at bu; rw [← a6.out] at bu)); have aQ := AM_ (Kd.R_lower bu (KS HK)); replace HK := KX HK hb; replace HB := BW1 HB ab hb; replace ab := IB ab hb; clear hb bu) | ((with_reducible refine G1 54 rfl ?_); refine GC (some 10) Try.func54 #[.pointer (some ⟨g, 0, none⟩), .int .i64 5] ?_; (with_reducible refine (spec_l1Below.calls g s0_0 s0_1 s0_2 5 bp bq br w0 _ ?side1 ?side2 A2.out).mono ?_); (case side1 => exact IZ ab); (case side2 => exact BZ1 HB ab); rintro e w5 ⟨rfl, hi, hb, hk⟩; refine ⟨_, rfl, ?_⟩; replace aQ := RK1 aQ ab hk; replace HK := KY HK hk; replace HB := AM_ (hb); replace ab := AM_ (hi); (try clear hb)))
 go_loopg [3, 4, 5] k (fun kq v3 v4 v5 w' => ∃ (ac : List (S52)) (av : Int) (aw : Int) (aj : Int) (ak : Int), v4 = .int .i64 av ∧ v5 = .int .i64 aw ∧ Aside0 (spec_l3Chain.l0 kq ac av aw s0_0 aj ak = some (r1, r2, r3)) ∧ Aside0 (kq ≤ k) ∧ Aside0 (Kd.R k52 52 w' w.heap.size (fun _ => True) v3 ac) ∧ Aside0 (IsS164 w0 w' g s0_0 aj ak) ∧ Aside0 (KeepBut w w' g none) ∧ Aside0 (Below w0.heap.size w0 w'))
 case atStart => exact ⟨(bZ), (0), (bp), (bq), (br), (by first | rfl | (simp; done) | (simp [*]; done)), (by first | rfl | (simp; done) | (simp [*]; done)), H', ⟨Nat.le_refl _⟩, ⟨RT aQ.out⟩, ⟨IZ ab⟩, ⟨KZ HK⟩, ⟨BZ1 HB ab⟩⟩
 case round =>
  clear H'
  try clear c5
  obtain ⟨ac, av, aw, aj, ak, rfl, rfl, HA, cz, HO_3, ab, HK, HB⟩ := hrel
  cases gk with
  | zero => exact absurd HA.out (by simp [spec_l3Chain.l0])
  | succ k1 =>
   have H := HA.out
   clear HA
   simp only [spec_l3Chain.l0] at H
   by_cases c6 : aw > 0
   rotate_left
   ·rw [if_neg c6] at H
    have b3 : decide (0 < aw) = false := decide_eq_false c6
    clear c6
    simp only [Option.some.injEq, Prod.mk.injEq] at H
    obtain ⟨rfl, rfl, rfl⟩ := H
    go_wp2
    go_ret
    exact ⟨_, ER, RT HO_3.out, IZ ab, BZ1 HB ab, KZ HK⟩
   rw [if_pos c6] at H
   have b3 : decide (0 < aw) = true := DE c6
   clear c6
   obtain ⟨aa, bg⟩ : ∃ j_ : Int, (wrap64 ((ac.length : Int) - 1)) = j_ := ⟨_, rfl⟩
   replace H : (if 0 ≤ (aa) then (if (aa) < (ac.length : Int) then ((spec_l1Below.f s0_0 aj ak 3).bind fun bt131 => ((some (ac.set ((aa) : Int).toNat (⟨(rd_T52 ac (aa)).f0, (rd_T52 ac (aa)).f1, (rd_T52 ac (aa)).f2, wrap64 (((rd_T52 ac (aa)).f2) + bt131.1), (rd_T52 ac (aa)).f4⟩ : S52) : List (S52))).bind fun ae => ((spec_l1Below.f s0_0 bt131.2.1 bt131.2.2 2).bind fun bt136 => ((spec_l1Below.f s0_0 bt136.2.1 bt136.2.2 4).bind fun bt139 => ((some (ae.set ((aa) : Int).toNat (⟨(rd_T52 ae (aa)).f0, (rd_T52 ae (aa)).f1, (rd_T52 ae (aa)).f2, (rd_T52 ae (aa)).f3, mx 1 (wrap64 ((wrap64 ((wrap64 ((mx av ((rd_T52 ae (aa)).f3)) + 1)) + bt136.1)) - bt139.1))⟩ : S52) : List (S52))).bind fun au => ((spec_l1Below.f s0_0 bt139.2.1 bt139.2.2 9).bind fun bt143 => ((spec_l1PickInt.f s0_0 bt143.2.1 bt143.2.2 (([(-1), 0, 5, 7, 42, 99] : List Int))).bind fun bt149 => (if au.length < 3518437208883 then (spec_l3Chain.l0 k1 (au ++ [(⟨wrap64 (1 + bt143.1), bt149.1, wrap64 ((wrap64 ((mx av ((rd_T52 ae (aa)).f3)) + 1)) + bt136.1), wrap64 ((wrap64 ((mx av ((rd_T52 ae (aa)).f3)) + 1)) + bt136.1), 1000⟩ : S52)]) (wrap64 ((wrap64 ((mx av ((rd_T52 ae (aa)).f3)) + 1)) + bt136.1)) (wrap64 (aw - 1)) s0_0 bt149.2.1 bt149.2.2) else (none))))))))) else (none)) else (none)) = some (r1, r2, r3) := by first | (rw [bg] at H; exact H) | (simp only [bg] at H ⊢; exact H)
   have hji7w : (IntKind.i64.wrap ((ac.length : Int) - 1)) = aa := (i64_w _).trans bg
   replace H := HI H
   obtain ⟨c8, H⟩ := H
   have cG := DE c8
   clear c8
   replace H := HI H
   obtain ⟨c9, H⟩ := H
   have cH := DE c9
   clear c9
   obtain ⟨⟨aR, aZ, a3⟩, b4, H⟩ := OB H
   obtain ⟨ae, a7, H⟩ := OY H
   have a8 := AM_ a7
   clear a7
   obtain ⟨ah, aI⟩ : ∃ j_ : Int, (mx av ((rd_T52 ae (aa)).f3)) = j_ := ⟨_, rfl⟩
   replace H : ((spec_l1Below.f s0_0 aZ a3 2).bind fun bt136 => ((spec_l1Below.f s0_0 bt136.2.1 bt136.2.2 4).bind fun bt139 => ((some (ae.set ((aa) : Int).toNat (⟨(rd_T52 ae (aa)).f0, (rd_T52 ae (aa)).f1, (rd_T52 ae (aa)).f2, (rd_T52 ae (aa)).f3, mx 1 (wrap64 ((wrap64 ((wrap64 ((ah) + 1)) + bt136.1)) - bt139.1))⟩ : S52) : List (S52))).bind fun au => ((spec_l1Below.f s0_0 bt139.2.1 bt139.2.2 9).bind fun bt143 => ((spec_l1PickInt.f s0_0 bt143.2.1 bt143.2.2 (([(-1), 0, 5, 7, 42, 99] : List Int))).bind fun bt149 => (if au.length < 3518437208883 then (spec_l3Chain.l0 k1 (au ++ [(⟨wrap64 (1 + bt143.1), bt149.1, wrap64 ((wrap64 ((ah) + 1)) + bt136.1), wrap64 ((wrap64 ((ah) + 1)) + bt136.1), 1000⟩ : S52)]) (wrap64 ((wrap64 ((ah) + 1)) + bt136.1)) (wrap64 (aw - 1)) s0_0 bt149.2.1 bt149.2.2) else (none))))))) = some (r1, r2, r3) := by first | (rw [aI] at H; exact H) | (simp only [aI] at H ⊢; exact H)
   (try rw [aI] at b4)
   have b6 : (if av < ((rd_T52 ae (aa)).f3) then ((rd_T52 ae (aa)).f3) else av) = ah := aI
   obtain ⟨⟨ai, bv, bw⟩, cA, H⟩ := OB H
   obtain ⟨⟨a4, bh, bi⟩, cB, H⟩ := OB H
   obtain ⟨aK, ax⟩ : ∃ j_ : Int, (mx 1 (wrap64 ((wrap64 ((wrap64 ((ah) + 1)) + ai)) - a4))) = j_ := ⟨_, rfl⟩
   replace H : ((some (ae.set ((aa) : Int).toNat (⟨(rd_T52 ae (aa)).f0, (rd_T52 ae (aa)).f1, (rd_T52 ae (aa)).f2, (rd_T52 ae (aa)).f3, aK⟩ : S52) : List (S52))).bind fun au => ((spec_l1Below.f s0_0 bh bi 9).bind fun bt143 => ((spec_l1PickInt.f s0_0 bt143.2.1 bt143.2.2 (([(-1), 0, 5, 7, 42, 99] : List Int))).bind fun bt149 => (if au.length < 3518437208883 then (spec_l3Chain.l0 k1 (au ++ [(⟨wrap64 (1 + bt143.1), bt149.1, wrap64 ((wrap64 ((ah) + 1)) + ai), wrap64 ((wrap64 ((ah) + 1)) + ai), 1000⟩ : S52)]) (wrap64 ((wrap64 ((ah) + 1)) + ai)) (wrap64 (aw - 1)) s0_0 bt149.2.1 bt149.2.2) else (none))))) = some (r1, r2, r3) := by first | (rw [ax] at H; exact H) | (simp only [ax] at H ⊢; exact H)
   (try rw [ax] at b4)
   (try rw [ax] at cA)
   (try rw [ax] at cB)
   have b7 : (if 1 < (wrap64 ((wrap64 ((wrap64 ((ah) + 1)) + ai)) - a4)) then (wrap64 ((wrap64 ((wrap64 ((ah) + 1)) + ai)) - a4)) else 1) = aK := ax
   obtain ⟨au, a9, H⟩ := OY H
   have bx := AM_ a9
   clear a9
   obtain ⟨⟨aT, bz, bA⟩, cI, H⟩ := OB H
   obtain ⟨bB, aU⟩ : ∃ y_ : List Int, y_ = (([(-1), 0, 5, 7, 42, 99] : List Int)) := ⟨_, rfl⟩
   rw [← aU] at H
   have ba := AM_ aU
   clear aU
   obtain ⟨⟨aV, bC, bD⟩, cJ, H⟩ := OB H
   replace H := HI H
   obtain ⟨cC, H⟩ := H
   have LMc19 := AM_ cC
   clear cC
   obtain ⟨b8, aW⟩ : ∃ y_ : List (S52), y_ = (au ++ [(⟨wrap64 (1 + aT), aV, wrap64 ((wrap64 ((ah) + 1)) + ai), wrap64 ((wrap64 ((ah) + 1)) + ai), 1000⟩ : S52)]) := ⟨_, rfl⟩
   rw [← aW] at H
   have bE := AM_ aW
   clear aW
   have H' := AM_ H
   clear H
   obtain ⟨cK, a5, ca⟩ := Kd.R_slice HO_3.out
   subst ca
   try go_wp2
   replace HO_3 := AM_ (Kd.R_drew HO_3.out)
   replace ab := AM_ (IsS164.drew ab.out)
   replace HK := AM_ (keep_drew HK.out)
   replace HB := BD2 HB
   have bj : 0 ≤ ((aa) : Int) := DT
   have bk : (aa) < (ac.length : Int) := DT
   obtain ⟨al, cb, aC, aD, aE, aG, aH⟩ := at_T52 (Kd.R_reads' HO_3.out).2.2 (aa) bj bk
   cases cb
   replace bj := ET bj
   replace bk := ET bk
   refine start_ (n := 13) (S := fun w' => w'.cell? (al.add (((aa)).toNat * 5)) = some (.int .i64 ((rd_T52 ac (aa)).f0)) ∧ w'.cell? ⟨(al.add (((aa)).toNat * 5)).block, (al.add (((aa)).toNat * 5)).off + 1, none⟩ = some (.int .i64 ((rd_T52 ac (aa)).f1)) ∧ w'.cell? ⟨(al.add (((aa)).toNat * 5)).block, (al.add (((aa)).toNat * 5)).off + 2, none⟩ = some (.int .i64 ((rd_T52 ac (aa)).f2)) ∧ w'.cell? ⟨(al.add (((aa)).toNat * 5)).block, (al.add (((aa)).toNat * 5)).off + 3, none⟩ = some (.int .i64 ((rd_T52 ac (aa)).f3)) ∧ w'.cell? ⟨(al.add (((aa)).toNat * 5)).block, (al.add (((aa)).toNat * 5)).off + 4, none⟩ = some (.int .i64 ((rd_T52 ac (aa)).f4))) (ds := [12]) (lo 0 13) (by kernel_rfl) rfl rfl ⟨aC, aD, aE, aG, aH⟩ (fun ag => ?_); refine with_tabW spec_l3Chain.tab7 spec_l3Chain.bits7 (fun aJ cc => ?_)
   generalize wr.drew = cU at HO_3 ab HK HB aC aD aE aG aH ag ⊢
   iterate 6 refine PS aJ ?_
   refine PV 7 (some 25) (bs 191 13) aJ ?_
   refine TX 6 (some 24) (lo 8 13) aJ cc ag ?_
   refine OS aJ (fun K hK => ?_)
   refine GO Try.func54 #[.pointer (some ⟨g, 0, none⟩), .int .i64 3] ?_
   with_reducible refine (spec_l1Below.calls g s0_0 aj ak 3 aR aZ a3 w0 _ ?side1 ?side2 b4.out).mono ?_
   (case side1 => exact IZ ab)
   (case side2 => exact BZ1 HB ab)
   rintro e cL ⟨rfl, hi, hb, hk⟩
   have HS0_ := keep_cell hk (ag.1) (by first | (rw [add_block]; exact Kd.own_blk (IsS164.own_ne ab.out HO_3.out (by decide))) | (show (Addr.add _ _).block ≠ _; rw [add_block]; exact Kd.own_blk (IsS164.own_ne ab.out HO_3.out (by decide))) | exact Kd.own_blk (IsS164.own_ne ab.out HO_3.out (by decide)) | (dsimp only; exact Kd.own_blk (IsS164.own_ne ab.out HO_3.out (by decide))))
   have HS1_ := keep_cell hk (ag.2.1) (by first | (rw [add_block]; exact Kd.own_blk (IsS164.own_ne ab.out HO_3.out (by decide))) | (show (Addr.add _ _).block ≠ _; rw [add_block]; exact Kd.own_blk (IsS164.own_ne ab.out HO_3.out (by decide))) | exact Kd.own_blk (IsS164.own_ne ab.out HO_3.out (by decide)) | (dsimp only; exact Kd.own_blk (IsS164.own_ne ab.out HO_3.out (by decide))))
   have HS2_ := keep_cell hk (ag.2.2.1) (by first | (rw [add_block]; exact Kd.own_blk (IsS164.own_ne ab.out HO_3.out (by decide))) | (show (Addr.add _ _).block ≠ _; rw [add_block]; exact Kd.own_blk (IsS164.own_ne ab.out HO_3.out (by decide))) | exact Kd.own_blk (IsS164.own_ne ab.out HO_3.out (by decide)) | (dsimp only; exact Kd.own_blk (IsS164.own_ne ab.out HO_3.out (by decide))))
   have HS3_ := keep_cell hk (ag.2.2.2.1) (by first | (rw [add_block]; exact Kd.own_blk (IsS164.own_ne ab.out HO_3.out (by decide))) | (show (Addr.add _ _).block ≠ _; rw [add_block]; exact Kd.own_blk (IsS164.own_ne ab.out HO_3.out (by decide))) | exact Kd.own_blk (IsS164.own_ne ab.out HO_3.out (by decide)) | (dsimp only; exact Kd.own_blk (IsS164.own_ne ab.out HO_3.out (by decide))))
   have HS4_ := keep_cell hk (ag.2.2.2.2) (by first | (rw [add_block]; exact Kd.own_blk (IsS164.own_ne ab.out HO_3.out (by decide))) | (show (Addr.add _ _).block ≠ _; rw [add_block]; exact Kd.own_blk (IsS164.own_ne ab.out HO_3.out (by decide))) | exact Kd.own_blk (IsS164.own_ne ab.out HO_3.out (by decide)) | (dsimp only; exact Kd.own_blk (IsS164.own_ne ab.out HO_3.out (by decide))))
   refine ⟨_, rfl, ?_⟩
   replace HO_3 := RK1 HO_3 ab hk
   replace HK := KY HK hk
   replace HB := AM_ (hb)
   replace ab := AM_ (hi)
   (try clear hb)
   (try clear hk)
   (try clear hi)
   have cd : 0 ≤ ((aa) : Int) := DT
   have ce : ((aa) : Int) < ((ac.length : Int) : Int) := DT
   obtain ⟨af, cM, bF, bG, cf, cl11, bH⟩ := Kd.R_form HO_3.out (by omega)
   (first | cases bF | (injection bF with ea_ en_ ec_; (first | subst ea_ | (injection ea_ with ea_; subst ea_)); subst ec_; clear en_))
   have bI := AM_ bG
   have cN := AM_ bH
   clear bG cf bH
   (first | simp only [add_plain] at aC | skip)
   (first | simp only [add_plain] at aD | skip)
   (first | simp only [add_plain] at aE | skip)
   (first | simp only [add_plain] at aG | skip)
   (first | simp only [add_plain] at aH | skip)
   obtain ⟨cO, bJ, bK, ay, az⟩ := Kd.R_elem HO_3.out z52 ((aa) : Int) cd ce
   obtain rfl := k52_openM bK
   have cg : World.cell? _ ⟨af, ((aa) : Int).toNat * 5, none⟩ = some (.int .i64 ((rd_T52 ac (aa)).f0)) := ay 0 _ rfl
   have ch : World.cell? _ ⟨af, ((aa) : Int).toNat * 5 + 1, none⟩ = some (.int .i64 ((rd_T52 ac (aa)).f1)) := ay 1 _ rfl
   have ci : World.cell? _ ⟨af, ((aa) : Int).toNat * 5 + 2, none⟩ = some (.int .i64 ((rd_T52 ac (aa)).f2)) := ay 2 _ rfl
   have cj : World.cell? _ ⟨af, ((aa) : Int).toNat * 5 + 3, none⟩ = some (.int .i64 ((rd_T52 ac (aa)).f3)) := ay 3 _ rfl
   have ck : World.cell? _ ⟨af, ((aa) : Int).toNat * 5 + 4, none⟩ = some (.int .i64 ((rd_T52 ac (aa)).f4)) := ay 4 _ rfl
   have hf11_0 : World.frozen? _ ⟨af, ((aa) : Int).toNat * 5, none⟩ = false := az 0
   have hf11_1 : World.frozen? _ ⟨af, ((aa) : Int).toNat * 5 + 1, none⟩ = false := az 1
   have hf11_2 : World.frozen? _ ⟨af, ((aa) : Int).toNat * 5 + 2, none⟩ = false := az 2
   have hf11_3 : World.frozen? _ ⟨af, ((aa) : Int).toNat * 5 + 3, none⟩ = false := az 3
   have hf11_4 : World.frozen? _ ⟨af, ((aa) : Int).toNat * 5 + 4, none⟩ = false := az 4
   clear bJ ay az; (try clear bK)
   replace cd := ET cd
   replace ce := ET ce
   have HN0_go11 := AM_ (show g ≠ af from by have h_ := IsS164.own_ne ab.out HO_3.out (by decide); intro e_; exact h_ (by rw [e_]; rfl))
   obtain ⟨cP, bb, bL, bd, bM⟩ := Kd.R_elem HO_3.out z52 ((aa) : Int) (DT) (by have h_ : ((aa) : Int) < ((ac.length : Int) : Int) := DT; first | exact h_ | (have e_ := (Kd.R_reads' HO_3.out).1; omega) | simpa using h_)
   obtain rfl := k52_openM bL
   have HP23 := (Kd.R_seg HO_3.out ((aa) : Int) (DT) (by have h_ : ((aa) : Int) < ((ac.length : Int) : Int) := DT; first | exact h_ | (have e_ := (Kd.R_reads' HO_3.out).1; omega) | simpa using h_) (seg := [.int .i64 (wrap64 (((rd_T52 ac (aa)).f2) + aR))]) (j := 3) bb bd (show 4 ≤ 5 from by decide) (x' := (⟨(rd_T52 ac (aa)).f0, (rd_T52 ac (aa)).f1, (rd_T52 ac (aa)).f2, wrap64 (((rd_T52 ac (aa)).f2) + aR), (rd_T52 ac (aa)).f4⟩ : S52)) (k52_mkM _ _ _ (⟨(rd_T52 ac (aa)).f0, (rd_T52 ac (aa)).f1, (rd_T52 ac (aa)).f2, wrap64 (((rd_T52 ac (aa)).f2) + aR), (rd_T52 ac (aa)).f4⟩ : S52) ) (fun _ hk => hk)).1
   rw [← a8.out] at HP23
   have HQ23 := AM_ HP23
   clear bb bd bM HP23; (try clear bL)
   refine hK.out _ _ ⟨HS0_, HS1_, HS2_, HS3_, HS4_⟩ (fun ag => ?_)
   clear hK K
   refine NM 26 ?_
   iterate 3 refine PS aJ ?_
   refine last_ (i := 12) (N := none) (lo 13 13) rfl rfl (one_of aJ.out (by kernel_rfl)) (by decide) (fun K hK => ?_)
   refine skip_ (w1 := ?_) (by rfl) rfl ?_ ?_
   rotate_left
   ·go_simp
    rfl
   refine hK.out _ _ ?_
   clear hK K
   refine done_ (done_of aJ.out (by kernel_rfl)) ?_
   try go_wp2
   generalize bN : cL.setCell ⟨af, ((aa) : Int).toNat * 5 + 3, none⟩ (.int .i64 (wrap64 (((rd_T52 ac (aa)).f2) + aR))) = bO
   have bP : Aside0 (Kd.R k52 52 bO w.heap.size (fun _ => True) (.slice (some ⟨af, 0, none⟩) ac.length a5) ae) := by subst bN; exact ⟨RT HQ23.out⟩
   have bQ : Aside0 (IsS164 w0 bO g s0_0 aZ a3) := by subst bN; exact ⟨IZ ab⟩
   have bR : Aside0 (KeepBut w bO g none) := by subst bN; exact ⟨KZ HK⟩
   have bS : Aside0 (Below w0.heap.size w0 bO) := by subst bN; exact ⟨by repeat (first | (with_reducible first | exact HB.out | apply below_alloc | apply pw_below_drewN | apply below_drew1 | refine below_set ?_ (Nat.le_trans HL.out bI.out) | refine below_set ?_ (IsS164.ge ab.out)) | exact HB.out)⟩
   (try clear HO_3)
   (try clear ab)
   (try clear HK)
   (try clear HB)
   clear bN
   have HO_3 := bP
   have ab := bQ
   have HK := bR
   have HB := bS
   clear bP bQ bR bS
   replace HO_3 := AM_ (Kd.R_drew HO_3.out)
   replace ab := AM_ (IsS164.drew ab.out)
   replace HK := AM_ (keep_drew HK.out)
   replace HB := BD2 HB
   have bm : 0 ≤ ((aa) : Int) := DT
   have bn : (aa) < (ae.length : Int) := (by have h_ : ((aa) : Int) < ((ac.length : Int) : Int) := DT; first | (have e_ := (Kd.R_reads' HO_3.out).1; omega) | simpa only [a8.out, List.length_set] using h_)
   have ql135 : (((aa) : Int) < ((ac.length : Int) : Int)) = True := eq_true (DT)
   obtain ⟨bT, cl, am, an, ao, ap, aq⟩ := at_T52 (Kd.R_reads' HO_3.out).2.2 (aa) bm bn
   obtain rfl : (⟨af, 0, none⟩ : Addr) = bT := (by injection cl)
   (first | simp only [add_plain] at am | simp only [add_at] at am | simp only [Addr.add, Nat.zero_add] at am | skip)
   (first | simp only [add_plain] at an | simp only [add_at] at an | simp only [Addr.add, Nat.zero_add] at an | skip)
   (first | simp only [add_plain] at ao | simp only [add_at] at ao | simp only [Addr.add, Nat.zero_add] at ao | skip)
   (first | simp only [add_plain] at ap | simp only [add_at] at ap | simp only [Addr.add, Nat.zero_add] at ap | skip)
   (first | simp only [add_plain] at aq | simp only [add_at] at aq | simp only [Addr.add, Nat.zero_add] at aq | skip)
   replace bm := ET bm
   replace bn := ET bn
   refine start_ (n := 12) (S := fun w' => w'.cell? ⟨af, ((aa)).toNat * 5, none⟩ = some (.int .i64 ((rd_T52 ae (aa)).f0)) ∧ w'.cell? ⟨af, ((aa)).toNat * 5 + 1, none⟩ = some (.int .i64 ((rd_T52 ae (aa)).f1)) ∧ w'.cell? ⟨af, ((aa)).toNat * 5 + 2, none⟩ = some (.int .i64 ((rd_T52 ae (aa)).f2)) ∧ w'.cell? ⟨af, ((aa)).toNat * 5 + 3, none⟩ = some (.int .i64 ((rd_T52 ae (aa)).f3)) ∧ w'.cell? ⟨af, ((aa)).toNat * 5 + 4, none⟩ = some (.int .i64 ((rd_T52 ae (aa)).f4))) (ds := []) (lo 0 12) (by kernel_rfl) rfl rfl ⟨am, an, ao, ap, aq⟩ (fun ag => ?_); refine with_tabW spec_l3Chain.tab8 spec_l3Chain.bits8 (fun aJ cc => ?_)
   generalize bO.drew = cV at HO_3 ab HK HB HQ23 am an ao ap aq ag ⊢
   iterate 5 refine PS aJ ?_
   refine PV 8 (some 38) (bs 287 12) aJ ?_
   refine TX 5 (some 35) (bs 319 12) aJ cc ag ?_
   refine PV 6 (some 36) (bs 383 12) aJ ?_
   refine PV 7 (some 37) (lo 9 12) aJ ?_
   refine OS aJ (fun K hK => ?_)
   refine GO Try.func54 #[.pointer (some ⟨g, 0, none⟩), .int .i64 2] ?_
   with_reducible refine (spec_l1Below.calls g s0_0 aZ a3 2 ai bv bw w0 _ ?side1 ?side2 cA.out).mono ?_
   (case side1 => exact IZ ab)
   (case side2 => exact BZ1 HB ab)
   rintro e cW ⟨rfl, hi, hb, hk⟩
   have HS0_ := keep_cell hk (ag.1) (by first | (rw [add_block]; exact Kd.own_blk (IsS164.own_ne ab.out HO_3.out (by decide))) | (show (Addr.add _ _).block ≠ _; rw [add_block]; exact Kd.own_blk (IsS164.own_ne ab.out HO_3.out (by decide))) | exact Kd.own_blk (IsS164.own_ne ab.out HO_3.out (by decide)) | (dsimp only; exact Kd.own_blk (IsS164.own_ne ab.out HO_3.out (by decide))))
   have HS1_ := keep_cell hk (ag.2.1) (by first | (rw [add_block]; exact Kd.own_blk (IsS164.own_ne ab.out HO_3.out (by decide))) | (show (Addr.add _ _).block ≠ _; rw [add_block]; exact Kd.own_blk (IsS164.own_ne ab.out HO_3.out (by decide))) | exact Kd.own_blk (IsS164.own_ne ab.out HO_3.out (by decide)) | (dsimp only; exact Kd.own_blk (IsS164.own_ne ab.out HO_3.out (by decide))))
   have HS2_ := keep_cell hk (ag.2.2.1) (by first | (rw [add_block]; exact Kd.own_blk (IsS164.own_ne ab.out HO_3.out (by decide))) | (show (Addr.add _ _).block ≠ _; rw [add_block]; exact Kd.own_blk (IsS164.own_ne ab.out HO_3.out (by decide))) | exact Kd.own_blk (IsS164.own_ne ab.out HO_3.out (by decide)) | (dsimp only; exact Kd.own_blk (IsS164.own_ne ab.out HO_3.out (by decide))))
   have HS3_ := keep_cell hk (ag.2.2.2.1) (by first | (rw [add_block]; exact Kd.own_blk (IsS164.own_ne ab.out HO_3.out (by decide))) | (show (Addr.add _ _).block ≠ _; rw [add_block]; exact Kd.own_blk (IsS164.own_ne ab.out HO_3.out (by decide))) | exact Kd.own_blk (IsS164.own_ne ab.out HO_3.out (by decide)) | (dsimp only; exact Kd.own_blk (IsS164.own_ne ab.out HO_3.out (by decide))))
   have HS4_ := keep_cell hk (ag.2.2.2.2) (by first | (rw [add_block]; exact Kd.own_blk (IsS164.own_ne ab.out HO_3.out (by decide))) | (show (Addr.add _ _).block ≠ _; rw [add_block]; exact Kd.own_blk (IsS164.own_ne ab.out HO_3.out (by decide))) | exact Kd.own_blk (IsS164.own_ne ab.out HO_3.out (by decide)) | (dsimp only; exact Kd.own_blk (IsS164.own_ne ab.out HO_3.out (by decide))))
   refine ⟨_, rfl, ?_⟩
   replace HO_3 := RK1 HO_3 ab hk
   replace HK := KY HK hk
   replace HB := AM_ (hb)
   replace ab := AM_ (hi)
   (try clear hb)
   (try clear hk)
   (try clear hi)
   refine hK.out _ _ ⟨HS0_, HS1_, HS2_, HS3_, HS4_⟩ (fun ag => ?_)
   clear hK K
   refine NM 39 ?_
   iterate 2 refine PS aJ ?_
   refine done_ (done_of aJ.out (by kernel_rfl)) ?_
   try go_wp2_with (first | ((with_reducible refine G1 54 rfl ?_); refine GC (some 45) Try.func54 #[.pointer (some ⟨g, 0, none⟩), .int .i64 4] ?_; (with_reducible refine (spec_l1Below.calls g s0_0 bv bw 4 a4 bh bi w0 _ ?side1 ?side2 cB.out).mono ?_); (case side1 => exact IZ ab); (case side2 => exact BZ1 HB ab); rintro e aM ⟨rfl, hi, hb, hk⟩; refine ⟨_, rfl, ?_⟩; replace HO_3 := RK1 HO_3 ab hk; replace HK := KY HK hk; replace HB := AM_ (hb); replace ab := AM_ (hi); (try clear hb); have cm : 0 ≤ ((aa) : Int) := DT; have cn : ((aa) : Int) < ((ac.length : Int) : Int) := DT; obtain ⟨cQ, bU, bV, aA, aB⟩ := Kd.R_elem HO_3.out z52 ((aa) : Int) cm cn; obtain rfl := k52_openM bV; have co : aM.cell? ⟨af, ((aa) : Int).toNat * 5, none⟩ = some (.int .i64 ((rd_T52 ae (aa)).f0)) := aA 0 _ rfl; have cp : aM.cell? ⟨af, ((aa) : Int).toNat * 5 + 1, none⟩ = some (.int .i64 ((rd_T52 ae (aa)).f1)) := aA 1 _ rfl; have cq : aM.cell? ⟨af, ((aa) : Int).toNat * 5 + 2, none⟩ = some (.int .i64 ((rd_T52 ae (aa)).f2)) := aA 2 _ rfl; have cr : aM.cell? ⟨af, ((aa) : Int).toNat * 5 + 3, none⟩ = some (.int .i64 ((rd_T52 ae (aa)).f3)) := aA 3 _ rfl; have ct : aM.cell? ⟨af, ((aa) : Int).toNat * 5 + 4, none⟩ = some (.int .i64 ((rd_T52 ae (aa)).f4)) := aA 4 _ rfl; have hf16_0 : aM.frozen? ⟨af, ((aa) : Int).toNat * 5, none⟩ = false := aB 0; have hf16_1 : aM.frozen? ⟨af, ((aa) : Int).toNat * 5 + 1, none⟩ = false := aB 1; have hf16_2 : aM.frozen? ⟨af, ((aa) : Int).toNat * 5 + 2, none⟩ = false := aB 2; have hf16_3 : aM.frozen? ⟨af, ((aa) : Int).toNat * 5 + 3, none⟩ = false := aB 3; have hf16_4 : aM.frozen? ⟨af, ((aa) : Int).toNat * 5 + 4, none⟩ = false := aB 4; clear bU aA aB; (try clear bV); replace cm := eq_true cm; replace cn := eq_true cn; have bW := AM_ (show Kd.R k52 52 aM w.heap.size (fun _ => True) (.slice (some ⟨af, 0, none⟩) ac.length a5) ae from (RT HO_3.out)); obtain ⟨cR, be, bX, aX, bf⟩ := Kd.R_elem bW.out z52 ((aa) : Int) (DT) (by have h_ : ((aa) : Int) < ((ac.length : Int) : Int) := DT; first | exact h_ | (have e_ := (Kd.R_reads' HO_3.out).1; omega) | simpa using h_); obtain rfl := k52_openM bX; have HP28 := Kd.R_seg bW.out ((aa) : Int) (DT) (by have h_ : ((aa) : Int) < ((ac.length : Int) : Int) := DT; first | exact h_ | (have e_ := (Kd.R_reads' HO_3.out).1; omega) | simpa using h_) (seg := [.int .i64 aK]) (j := 4) be aX (show 5 ≤ 5 from by decide) (x' := (⟨(rd_T52 ae (aa)).f0, (rd_T52 ae (aa)).f1, (rd_T52 ae (aa)).f2, (rd_T52 ae (aa)).f3, aK⟩ : S52)) (k52_mkM _ _ _ (⟨(rd_T52 ae (aa)).f0, (rd_T52 ae (aa)).f1, (rd_T52 ae (aa)).f2, (rd_T52 ae (aa)).f3, aK⟩ : S52) ) (fun _ hk => hk); have bo := aX 4 _ rfl; (try simp only [show (k52).sz = 5 from rfl, Nat.mul_one, Nat.add_zero] at bo); have hf28_4 := bf 4; (try simp only [show (k52).sz = 5 from rfl, Nat.mul_one, Nat.add_zero] at hf28_4); clear be aX bf; (try clear bX)) | ((with_reducible refine gate_store (t := 3) (p := 49) rfl ?_); refine store_event (t := 3) (p := 49) (v := ?vo_w29) (w1 := (aM.setCell ⟨af, ((aa) : Int).toNat * 5 + 4, none⟩ (.int .i64 aK))) ?hg ?ho ?hn ?hr ?_; (case ho => rfl); (case hg => rfl); (case hn => rfl); (case hr => first | (go_simp; done) | (go_simp; rfl)); intro cu hw; have hg : aM.grownBy cu (some af) := (by rw [hw]; exact HP28.2); have hp_ : Kd.R k52 52 cu w.heap.size (fun _ => True) (.slice (some ⟨af, 0, none⟩) ac.length a5) au := (by rw [hw, bx.out]; exact HP28.1); clear HP28; replace ab := AM_ (IsS164.grown (IZ ab) hg (IsS164.own_ne ab.out HO_3.out (by decide))); replace HB := AM_ ((by rw [hw]; exact below_set (HB.out) (Nat.le_trans HL.out bI.out) : Below w0.heap.size w0 cu)); replace HK := AM_ (KeepBut.trans (KZ HK) (KeepBut.of_grown hg g) (Kd.R_base2 HO_3.out)); replace HO_3 := AM_ (hp_); clear hg hw hp_) | ((with_reducible refine G1 54 rfl ?_); refine GC (some 52) Try.func54 #[.pointer (some ⟨g, 0, none⟩), .int .i64 9] ?_; (with_reducible refine (spec_l1Below.calls g s0_0 bh bi 9 aT bz bA w0 _ ?side1 ?side2 cI.out).mono ?_); (case side1 => exact IZ ab); (case side2 => exact BZ1 HB ab); rintro e cX ⟨rfl, hi, hb, hk⟩; refine ⟨_, rfl, ?_⟩; replace HO_3 := RK1 HO_3 ab hk; replace HK := KY HK hk; replace HB := AM_ (hb); replace ab := AM_ (hi); (try clear hb)) | ((with_reducible refine G2 55 rfl ?_); refine Kd.R_lit (Kd.int .i64) _ 3 ?hg (N := 55) ?hd (xs := ([(-1), 0, 5, 7, 42, 99] : List Int)) (inner := [.int .i64 (-1), .int .i64 0, .int .i64 5, .int .i64 7, .int .i64 42, .int .i64 99]) (ok := fun _ => True) (okp := fun _ => True) ?hr ?hp (fun _ hk => hk) trivial (Below.refl _ _) (Nat.le_refl _) (by simp) ?_; (case hd => rfl); (case hg => rfl); (case hr => first | (go_simp; done) | (go_simp; rfl)); (case hp => exact (Reps.one (show Kd.M (Kd.int .i64) _ _ _ (-1) [.int .i64 (-1)] from rfl) (Reps.one (show Kd.M (Kd.int .i64) _ _ _ 0 [.int .i64 0] from rfl) (Reps.one (show Kd.M (Kd.int .i64) _ _ _ 5 [.int .i64 5] from rfl) (Reps.one (show Kd.M (Kd.int .i64) _ _ _ 7 [.int .i64 7] from rfl) (Reps.one (show Kd.M (Kd.int .i64) _ _ _ 42 [.int .i64 42] from rfl) (Reps.one (show Kd.M (Kd.int .i64) _ _ _ 99 [.int .i64 99] from rfl) (Reps.none _ _)))))))); intro cS cY aY hb hg_ hnew_; clear hg_ hnew_; (first | rw [← ba.out] at aY | (simp only [Int.reduceToNat] at aY; rw [← ba.out] at aY)); replace HO_3 := RB HO_3 hb; have ar := AM_ (Kd.R_lower aY (KS HK)); replace HK := KX HK hb; replace HB := BW1 HB ab hb; replace ab := IB ab hb; clear hb aY; obtain ⟨cv, cw, cx⟩ := Kd.R_slice ar.out; subst cx) | ((with_reducible refine G1 98 rfl ?_); refine GC (some 56) Try.func98 #[.pointer (some ⟨g, 0, none⟩), .slice cv bB.length cw] ?_; (with_reducible refine (spec_l1PickInt.calls g s0_0 bz bA _ _ bB aV bC bD w0 _ ?side1 ?side2 (CRR ar) (Kd.R_reads' ar.out).2.1 ?side5 cJ.out).mono ?_); (case side1 => exact IZ ab); (case side2 => exact BZ1 HB ab); (case side5 => exact far_slice (IsS164.own_ne ab.out ar.out (by decide))); rintro e cZ ⟨rfl, hi, hb, hk⟩; refine ⟨_, rfl, ?_⟩; replace HO_3 := RK1 HO_3 ab hk; replace ar := RK1 ar ab hk; replace HK := KY HK hk; replace HB := AM_ (hb); replace ab := AM_ (hi); (try clear hb)) | ((with_reducible refine gate_builtin (b := .append) (xs := #[.tmp 50, .tmp 60]) rfl ?_); at_builtin; refine Kd.R_append k52 w.heap.size rfl (.tmp 50) (.tmp 60) 62 52 (.agg #[(.int .i64 0), (.int .i64 0), (.int .i64 0), (.int .i64 0), (.int .i64 0)]) 40 rfl Try.underlying62 info52 rfl (by decide) (by omega) (.slice (some ⟨af, 0, none⟩) ac.length a5) au (⟨wrap64 (1 + aT), aV, wrap64 ((wrap64 ((ah) + 1)) + ai), wrap64 ((wrap64 ((ah) + 1)) + ai), 1000⟩ : S52) [.int .i64 (wrap64 (1 + aT)), .int .i64 aV, .int .i64 (wrap64 ((wrap64 ((ah) + 1)) + ai)), .int .i64 (wrap64 ((wrap64 ((ah) + 1)) + ai)), .int .i64 1000] (fun _ => True) (fun _ => False) rfl rfl ?aP (fun _ hk => hk.elim) ?aF ?aO (Below.refl _ _) ?aS ?aL ?_; (case aP => exact k52_mkM _ _ _ (⟨wrap64 (1 + aT), aV, wrap64 ((wrap64 ((ah) + 1)) + ai), wrap64 ((wrap64 ((ah) + 1)) + ai), 1000⟩ : S52)); (case aF => exact (fun _ _ => trivial)); (case aO => exact (RT HO_3.out)); (case aS => exact (KS HK)); (case aL => have := LMc19.out; omega); intro cT da ho hb hg hat; rw [← bE.out] at ho; have bP := AM_ (IsS164.grown (IZ ab) hg (IsS164.own_ne ab.out HO_3.out (by decide))); have bQ := AM_ (Kd.R_over' (RT ar.out) (Kd.R_typed (RT HO_3.out)) (by decide) hg); have bR := AM_ (below_weaken (BZ1 HB ab) HL.out hb); have bS := AM_ (KeepBut.trans (KZ HK) (KeepBut.of_grown hg g) (Kd.R_base2 HO_3.out)); have cD := AM_ (ho); clear ab; clear ar; clear HB; clear HK; clear HO_3; have ab := bP; have ar := bQ; have HB := bR; have HK := bS; have bY := cD; clear bP bQ bR bS cD; clear ho hb hg hat))
   go_roundg k1
   case measure => have := cz.out; omega
   case rel => exact ⟨(b8), (wrap64 ((wrap64 ((ah) + 1)) + ai)), (wrap64 (aw - 1)), (bC), (bD), (by first | rfl | (simp; done) | (simp only [← aI] <;> (first | rfl | simp)) | (simp [*]; done)), (by first | rfl | (simp; done) | (simp [*]; done)), H', ⟨by have := cz.out; omega⟩, ⟨RT bY.out⟩, ⟨IZ ab⟩, ⟨KZ HK⟩, ⟨BZ1 HB ab⟩⟩

/-! ### spec_l4Store: function 121 -/
def spec_l4Store.l0 : Nat → Int → List Int → Int → Int → List (List (S52)) → Option ((List (List (S52))) × Int × Int)
 | 0, _, _, _, _, _ => none
 | k + 1, x4, ab, ac, ae, aa => if x4 < 6 then ((spec_l3Chain.f k ab ac ae).bind fun bt157 => (if aa.length < 5864062014805 then (spec_l4Store.l0 k (wrap64 (x4 + 1)) ab bt157.2.1 bt157.2.2 (aa ++ [bt157.1])) else (none))) else (some (aa, ac, ae))
def spec_l4Store.f (k : Nat) (s0_0 : List Int) (s0_1 : Int) (s0_2 : Int) : Option ((List (List (S52))) × Int × Int) := spec_l4Store.l0 k 0 s0_0 s0_1 s0_2 ([] : List (List (S52)))
theorem spec_l4Store.mono_l : ∀ k, (∀ y0 y1 y2 y3 y4, LeO (spec_l4Store.l0 k y0 y1 y2 y3 y4) (spec_l4Store.l0 (k + 1) y0 y1 y2 y3 y4))
 | 0 => fun _ _ _ _ _ r h => by simp [spec_l4Store.l0] at h
 | k + 1 => by
  have aa := spec_l4Store.mono_l k
  all_goals intros; unfold spec_l4Store.l0
  all_goals repeat' (with_reducible first | exact aa .. | exact spec_l3Chain.mono .. | exact LeO.refl _ | exact LeO.none _ | refine LeO.ite ?_ ?_ | refine LeO.bind ?_ (fun _ => ?_))
theorem spec_l4Store.mono : ∀ a0 a1 a2 k, LeO (spec_l4Store.f k a0 a1 a2) (spec_l4Store.f (k + 1) a0 a1 a2) := by
 intro a0 a1 a2 k
 have aa := spec_l4Store.mono_l k
 unfold spec_l4Store.f
 repeat' (with_reducible first | exact aa .. | exact spec_l3Chain.mono .. | exact LeO.refl _ | exact LeO.none _ | refine LeO.ite ?_ ?_ | refine LeO.bind ?_ (fun _ => ?_))
def spec_l4Store.T5 : Bool × List (List Nat × List Nat) := (true, [([], []), ([0], [0]), ([], []), ([2], [2]), ([3], [3]), ([1, 4, 3], [1, 4]), ([0, 1, 2, 3, 4, 5], []), ([6, 5, 5, 0, 1, 2, 3, 4, 5], [5, 6])])
def spec_l4Store.B5 : List Nat := [0, 1, 0, 4, 12, 31, 63, 127]
theorem spec_l4Store.tab5 : rtab .any (opsOf Try.f121 5) = spec_l4Store.T5 := by kernel_rfl
theorem spec_l4Store.bits5 : waitsOk spec_l4Store.T5.2 spec_l4Store.B5 = true := by kernel_rfl
theorem spec_l4Store.calls (k : Nat) (g : Nat) (s0_0 : List Int) (s0_1 : Int) (s0_2 : Int) (r1 : List (List (S52))) (r2 : Int) (r3 : Int) (w0 w : World) (hI : IsS164 w0 w g s0_0 s0_1 s0_2) (hB : Below w0.heap.size w0 w) (h : spec_l4Store.f k s0_0 s0_1 s0_2 = some (r1, r2, r3)) :
  Calls Try.prog 121 #[.pointer (some ⟨g, 0, none⟩)] w fun e w' => ∃ aY : Value, e = .returned (.agg #[aY]) ∧ Kd.S (Kd.slice 52 k52) 62 w' w.heap.size (fun _ => True) aY r1 ∧ IsS164 w0 w' g s0_0 r2 r3 ∧ Below w0.heap.size w0 w' ∧ KeepBut w w' g none := by
 have bi := Try.underlying34
 have af := AM_ hI
 have HK := AM_ (KeepBut.refl w g none)
 have HL := AM_ hB.size
 clear hI
 have HW0 := AM_ hB.size
 have HB := AM_ hB
 clear hB
 have H : (spec_l4Store.l0 k 0 s0_0 s0_1 s0_2 ([] : List (List (S52)))) = some (r1, r2, r3) := h
 clear h
 have H' := AM_ H
 clear H
 go_enter Try.func121, Try.ntmps121
 go_wp2_with (first | ((with_reducible refine G2 2 rfl ?_); refine BX 2 #[.slice none 0 0] 34 ?_; intro aw hg w2 hbox hb; replace HB := BW1 HB af hb; have ab := AM_ (hbox); have aZ := GK HK hg; have GE155 := GE1 HW0 HK hg; replace HK := KX HK hb; have au := NI af hg; have al := NJ af hg; replace af := IB af hb; clear hb hbox hg) | ((with_reducible refine G2 3 rfl ?_); refine BX 3 #[.slice none 0 0] 34 ?_; intro ao hg w3 hbox hb; replace HB := BW1 HB af hb; have aa := AM_ (hbox); have a3 := GK HK hg; have GE156 := GE1 HW0 HK hg; replace HK := KX HK hb; have ae := NP ab hg; have ai := NQ ab hg; replace ab := BV ab hb; have am := NI af hg; have aj := NJ af hg; replace af := IB af hb; clear hb hbox hg; have bj := ai.out; have bk := ae.out; have bm := aj.out; have bn := am.out; obtain ⟨ay, az⟩ := bk1 aa.out))
 go_loopg [4] k (fun kq v4 w' => ∃ (ap : Int) (ag : Int) (ah : Int) (ac : List (List (S52))) (u157000 : Value), v4 = .int .i64 ap ∧ Aside0 (spec_l4Store.l0 kq ap s0_0 ag ah ac = some (r1, r2, r3)) ∧ Aside0 (kq ≤ k) ∧ Aside0 (Kd.S (Kd.slice 52 k52) 62 w' w.heap.size (fun _ => True) u157000 ac) ∧ Aside0 (w'.heap[aw]? = some (.cells #[(.slice none 0 0)] 34 (0, 0))) ∧ Aside0 (w'.heap[ao]? = some (.cells #[u157000] 34 (0, 0))) ∧ Aside0 (IsS164 w0 w' g s0_0 ag ah) ∧ Aside0 (KeepBut w w' g none) ∧ Aside0 (Below w0.heap.size w0 w'))
 case atStart => exact ⟨(0), (s0_1), (s0_2), (([] : List (List (S52)))), (.slice none 0 0), (by first | rfl | (simp; done) | (simp [*]; done)), H', ⟨Nat.le_refl _⟩, ⟨by first | exact Kd.S_nil _ _ _ _ _ | exact Kd.N_nil _ _ _ _ _ | exact Kd.V_nil _ _ _ _ _ | exact Kd.Q_nil _ _ _ _ _ | exact Kd.R_nil _ _ _ _ _⟩, ⟨BG ab.out ae.out⟩, ⟨BQ aa.out⟩, ⟨IZ af⟩, ⟨KZ HK⟩, ⟨BZ1 HB af⟩⟩
 case round =>
  clear H'
  try clear ay az
  obtain ⟨ap, ag, ah, ac, u157000, rfl, HA, a4, HO_157000, ab, aa, af, HK, HB⟩ := hrel
  cases gk with
  | zero => exact absurd HA.out (by simp [spec_l4Store.l0])
  | succ k1 =>
   have H := HA.out
   clear HA
   simp only [spec_l4Store.l0] at H
   by_cases c7 : ap < 6
   rotate_left
   ·rw [if_neg c7] at H
    have aQ := decide_eq_false c7
    clear c7
    simp only [Option.some.injEq, Prod.mk.injEq] at H
    obtain ⟨rfl, rfl, rfl⟩ := H
    have a5 := ai.out
    have a6 := ae.out
    have a7 := aj.out
    have a8 := am.out
    obtain ⟨aJ, aK⟩ := bk1 aa.out
    obtain ⟨aR, aT, aU⟩ := Kd.S_slice HO_157000.out
    subst aU
    have a9 := al.out
    have ba := au.out
    obtain ⟨aM, aN⟩ := bk1 ab.out
    go_wp2
    refine bodyPost_ret (results_cell_row rfl _ _ aw 34 #[.slice aR ac.length aT] (0, 0) _ rfl (by (with_reducible repeat (first | refine blk_drewN ?_ _ | refine blk_drew ?_ | refine blk_alloc ?_ _)); refine blk_put (cs := #[.slice none 0 0]) ?_ 0 _ rfl; (with_reducible repeat (first | refine blk_drewN ?_ _ | refine blk_drew ?_ | refine blk_alloc ?_ _)); exact ab.out) Try.underlying34 rfl (by kernel_rfl)) rfl ?_
    exact ⟨_, ER, by (with_reducible repeat (first | apply Kd.S_alloc | apply Kd.S_drewN | apply Kd.S_drew)); exact Kd.S_mono (SF1 (Kd.S_types HO_157000.out ab.out (by decide)) (fun _ hk => hk.2)) (fun _ hk => trivial), IZ af, BZ1 HB af, KZ HK⟩
   rw [if_pos c7] at H
   have aQ := DE c7
   clear c7
   obtain ⟨⟨aq, aA, aB⟩, A8, H⟩ := OB H
   replace H := HI H
   obtain ⟨c9, H⟩ := H
   have LMc9 := AM_ c9
   clear c9
   obtain ⟨aC, ar⟩ : ∃ y_ : List (List (S52)), y_ = (ac ++ [aq]) := ⟨_, rfl⟩
   rw [← ar] at H
   have aD := AM_ ar
   clear ar
   have H' := AM_ H
   clear H
   try go_wp2
   replace HO_157000 := AM_ (Kd.S_drew HO_157000.out)
   replace ab := BD1 ab
   replace aa := BD1 aa
   replace af := AM_ (IsS164.drew af.out)
   replace HK := AM_ (keep_drew HK.out)
   replace HB := BD2 HB
   refine start_ (n := 8) (S := fun w' => w'.cell? ⟨ao, 0, none⟩ = some (u157000)) (ds := [7]) (lo 0 8) (by kernel_rfl) rfl rfl ((blk_cell aa.out 0).trans rfl) (fun ak => ?_); refine with_tabW spec_l4Store.tab5 spec_l4Store.bits5 (fun av bo => ?_)
   generalize wr.drew = bu at HO_157000 ab aa af HK HB ak ⊢
   refine PS av ?_
   refine PV 2 (some 12) (bs 5 8) av ?_
   refine tk (i := 1) (N := some 11) (v := ?_) (a' := ?_) (lo 3 8) rfl rfl av bo ?_ ak ?_ ?_
   rotate_left
   ·intro w' s0
    go_simp
    with_reducible rfl
   rotate_left
   ·simp only[pA,pS,pZ,pK,pV]
    rfl
   refine OS av (fun K hK => ?_)
   refine GO Try.func137 #[.pointer (some ⟨g, 0, none⟩)] ?_
   with_reducible refine (spec_l3Chain.calls k1 g s0_0 ag ah aq aA aB w0 _ ?side1 ?side2 A8.out).mono ?_
   (case side1 => exact IZ af)
   (case side2 => exact BZ1 HB af)
   rintro e bv ⟨bp, rfl, aV, hi, hb, hk⟩
   refine ⟨_, rfl, ?_⟩
   replace HO_157000 := AM_ (Kd.S_mono (Kd.S_told (Kd.S_oldK (IsS164.apartS (show IsS164 w0 _ g s0_0 ag ah from IZ af) (ST HO_157000.out) (by decide)) hk) (Kd.R_base aV)) (fun _ h_ => h_.1))
   replace ab := KB ab hk al
   replace aa := KB aa hk aj
   have an := AM_ (Kd.R_lower aV (KS HK))
   replace HK := KY HK hk
   replace HB := AM_ (hb)
   replace af := AM_ (hi)
   (try clear hb)
   (try clear hk)
   (try clear hi)
   (try clear aV)
   obtain ⟨aE, aG, aH⟩ := Kd.R_slice an.out
   (first | subst aH | (injection aH with f1_ f2_ f3_; have f4_ := f1_.symm; have f5_ := f3_.symm; clear f1_ f2_ f3_; subst f4_; subst f5_))
   refine hK.out _ _ ((blk_cell aa.out 0).trans rfl) (fun ak => ?_)
   clear hK K
   refine NM 13 ?_
   refine OS av (fun K hK => ?_)
   refine value_ (w1 := ?_) (v := ?_) (by rfl) rfl ?_ ?_
   rotate_left 2
   ·go_simp
    constructor
    ·rfl
    ·rfl
   refine hK.out _ _ ((blk_cell (blk_alloc aa.out _) 0).trans rfl) (fun ak => ?_)
   clear hK K
   refine NM 14 ?_
   refine OS av (fun K hK => ?_)
   refine Kd.S_append_step (Kd.slice 52 k52) w.heap.size (by rfl) (.tmp 11) (.tmp 14) 32 62 (.slice none 0 0) 24 rfl Try.underlying32 info62 rfl (by decide) (by omega) u157000 ac aq [.slice aE aq.length aG] (fun _ => True) (fun k_ => some k_ = (.slice aE aq.length aG : Value).ownBlock) rfl rfl ?aP (fun k_ hk_ => ((Kd.R_mono (ok' := fun k_ => ((fun _ => True)) k_ ∧ some k_ ≠ (u157000 : Value).ownBlock) (Kd.R_apart' (an.out) (Kd.S_typed HO_157000.out) (by decide)) (fun k_ hk => ⟨trivial, hk.2⟩))).1 k_ hk_.symm) ?aF ?aO (Below.refl _ _) ?aS ?aL ?_
   (case aP => exact Kd.M_row (Kd.R_mono (Kd.R_tight rfl (Kd.R_mono (ok' := fun k_ => ((fun _ => True)) k_ ∧ some k_ ≠ (u157000 : Value).ownBlock) (Kd.R_apart' (an.out) (Kd.S_typed HO_157000.out) (by decide)) (fun k_ hk => ⟨trivial, hk.2⟩))) (fun _ h_ => h_)))
   (case aF => exact (fun _ _ => trivial))
   (case aO => exact (by (with_reducible repeat (first | apply Kd.S_alloc | apply Kd.S_drewN | apply Kd.S_drew)); exact Kd.S_mono HO_157000.out (fun k_ hk => ⟨trivial, fun e_ => hk.2 e_⟩)))
   (case aS => exact (KS HK))
   (case aL => have := LMc9.out; omega)
   intro bq br ho hb hg hat
   rw [← aD.out] at ho
   have bb := AM_ (blk_grown (BG1 ab) hg (Kd.S_ne HO_157000.out ab.out (by decide)))
   have bd := AM_ (blk_grown (BG1 aa) hg (Kd.S_ne HO_157000.out aa.out (by decide)))
   have be := AM_ (IsS164.grown (IZ af) hg (IsS164.own_neS af.out HO_157000.out (by decide)))
   have bf := AM_ (below_weaken (BZ1 HB af) HL.out hb)
   have bg := AM_ (KeepBut.trans (KZ HK) (KeepBut.of_grown hg g) (Kd.S_base2 HO_157000.out))
   have bh := AM_ (ho)
   clear ab
   clear aa
   clear af
   clear HB
   clear HK
   clear HO_157000
   clear an
   have ab := bb
   have aa := bd
   have af := be
   have HB := bf
   have HK := bg
   have ax := bh
   clear bb bd be bf bg bh
   clear ho hb hg hat
   obtain ⟨aW, aX, aI⟩ := Kd.S_slice ax.out
   (first | subst aI | (injection aI with f1_ f2_ f3_; have f4_ := f1_.symm; have f5_ := f3_.symm; clear f1_ f2_ f3_; subst f4_; subst f5_))
   refine hK.out _ _ ((blk_cell aa.out 0).trans rfl) (fun ak => ?_)
   clear hK K
   refine NM 15 ?_
   refine PS av ?_
   refine last_ (i := 7) (N := none) (lo 8 8) rfl rfl (one_of av.out (by kernel_rfl)) (by decide) (fun K hK => ?_)
   have hs15 : br.cell? ⟨ao, 0, none⟩ = some (u157000) := (blk_cell aa.out 0).trans rfl
   have hfs15 := blk_frozen aa.out 0
   have hns15_0 := ae.out
   have hms15_0 := ai.out
   refine skip_ (w1 := ?_) (by rfl) rfl ?_ ?_
   rotate_left
   ·go_simp
    rfl
   refine hK.out _ _ ?_
   clear hK K
   refine done_ (done_of av.out (by kernel_rfl)) ?_
   try go_wp2
   go_roundg k1
   case measure => have := a4.out; omega
   case rel => exact ⟨(wrap64 (ap + 1)), (aA), (aB), (aC), (.slice aW aC.length aX), (by first | rfl | (simp; done) | (simp [*]; done)), H', ⟨by have := a4.out; omega⟩, ⟨by (with_reducible repeat (first | apply Kd.S_alloc | apply Kd.S_drewN | apply Kd.S_drew)); exact Kd.S_mono (SF1 (Kd.S_types ax.out aa.out (by decide)) (fun _ hk => hk.2)) (fun _ hk => trivial)⟩, ⟨BG ab.out ae.out⟩, ⟨BQ aa.out⟩, ⟨IZ af⟩, ⟨KZ HK⟩, ⟨BZ1 HB af⟩⟩

end Go.Proofs.Ytdgknikgfjhohaa.PFnSchemes
