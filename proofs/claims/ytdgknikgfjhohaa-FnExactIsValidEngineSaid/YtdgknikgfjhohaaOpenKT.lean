/- What an argument's reading says of its cells, kind by kind: a value that can be read as data of type t is of kind d. No condition. -/
import Derived.Test.YtdgknikgfjhohaaWWordsT
import Derived.Test.YtdgknikgfjhohaaWLastT
import Derived.Deep.Slices
import Derived.ChangeArms
import Derived.ChangeSame
import Derived.KernelRfl
namespace Go.Proofs.Ytdgknikgfjhohaa.OpenK
open Go.ChangeShapes Go.WideShapes Go.RowKit Go.Deep Go.Proofs.YtdgknikgfjhohaaW.PrintWords Go.Proofs.YtdgknikgfjhohaaW.PrintLast
set_option linter.unusedVariables false

def okInt (k : IntKind) (n : Int) : Prop := (Lit.int k n).wf = true
def okBool (_ : Bool) : Prop := True
def okRow {α : Type} (G : α → Prop) (xs : List α) : Prop := xs.length ≤ maxLen ∧ ∀ x ∈ xs, G x

def Opens (P : Program) {α : Type} (d : Kd α) (t : TypeId) (G : α → Prop) : Prop :=
  ∀ (H : Type) (enc : TypeId × Value → H) (W : World) (base : Nat) (sp : Nat → Bool) (held : Bool) (fuel : Nat) (cs : List Value) (x : DataW H × List MemPlace),
    DataW.trod enc P W base sp held fuel t cs = some x → ∃ a : α, d.K W a cs ∧ G a
def Chain (P : Program) (f : TypeId → List Value → Prop) : List TypeId → List Value → Prop
  | [], cs => cs = []
  | t :: ts, cs => f t (cs.take (P.cellsOf t)) ∧ Chain P f ts (cs.drop (P.cellsOf t))
def OpensL (P : Program) {α : Type} (d : Kd α) (ts : List TypeId) (G : α → Prop) : Prop :=
  ∀ (H : Type) (enc : TypeId × Value → H) (W : World) (base : Nat) (sp : Nat → Bool) (held : Bool) (fuel : Nat) (cs : List Value),
    Chain P (fun t c => ∃ x, DataW.trod enc P W base sp held fuel t c = some x) ts cs → ∃ a : α, d.K W a cs ∧ G a
section
variable {P : Program} {t e : TypeId} {ts : List TypeId} {α β : Type}
theorem Opens.int {k : IntKind} (ht : P.underlying t = some (.int k)) : Opens P (Kd.int k) t (okInt k) := by
  intro H enc W base sp held fuel cs x h
  obtain ⟨n, rfl, _, hw⟩ := DataW.trod_int ht h
  exact ⟨n, rfl, hw⟩
theorem Opens.bool (ht : P.underlying t = some .bool) : Opens P Kd.bool t okBool := by
  intro H enc W base sp held fuel cs x h
  obtain ⟨b, rfl, _⟩ := DataW.trod_bool ht h
  exact ⟨b, rfl, trivial⟩
theorem add_add_ (a : Addr) (i j : Nat) : (a.add i).add j = a.add (i + j) := by
  unfold Addr.add
  by_cases hi : i = 0 <;> by_cases hj : j = 0 <;> simp [hi, hj, Nat.add_assoc]
theorem Opens.slice {d : Kd α} {G : α → Prop} (z : α) (ht : P.underlying t = some (.slice e)) (hc : P.cellsOf e = d.sz) (he : Opens P d e G) : Opens P (Kd.slice e d) t (okRow G) := by
  intro H enc W base sp held fuel cs x h
  rcases open_slice ht h with ⟨rfl, _⟩ | ⟨a, len, cap, m, n, D, Pl, rfl, hb, hl, hm, hmm, _, hi⟩
  · exact ⟨[], ⟨none, 0, rfl, Nat.le_refl _, rfl, by simp, fun h => absurd h (Nat.lt_irrefl 0)⟩, by simp, by simp⟩
  · have hlm : len ≤ m := by rw [hmm]; split <;> omega
    haveI : Inhabited α := ⟨z⟩
    obtain ⟨V, hV⟩ := choose_lt (α := α) (n := len) (p := fun i x => G x ∧ ∃ c, c.length = d.sz ∧ d.K W x c ∧ ∀ j u, c[j]? = some u → W.cell? (a.add (i * d.sz + j)) = some u) (fun i hil => by
      obtain ⟨cs', h1, h2⟩ := hi i (by omega)
      obtain ⟨x, hK, hG⟩ := he _ _ _ _ _ _ _ _ _ h2
      obtain ⟨_, hlen, hat⟩ := World.cells?_some h1
      refine ⟨x, hG, cs', d.K_len hK, hK, fun j u hu => ?_⟩
      have hj : j < P.cellsOf e := by
        rcases Nat.lt_or_ge j cs'.length with h | h
        · omega
        · rw [List.getElem?_eq_none h] at hu; cases hu
      have := hat j hj
      rw [add_add_, hc] at this
      rw [this, hu])
    have hml : len ≤ 9223372036854775807 := by simp only [maxLen] at hm; omega
    refine ⟨(List.range len).map V, ⟨some a, cap, by simp, by simpa using hl, by simp, by simpa using hml, fun h0 => ⟨a, rfl, fun j p hp => ?_⟩⟩, by simp; omega, fun x hx => ?_⟩
    · have hj : j < len := by
        rcases Nat.lt_or_ge j len with h | h
        · exact h
        · rw [List.getElem?_eq_none (by simpa using h)] at hp; cases hp
      have : V j = p := by simpa [List.getElem?_map, List.getElem?_range hj] using hp
      subst this
      exact (hV j hj).2
    · obtain ⟨j, hj, rfl⟩ := List.mem_map.1 hx
      exact (hV j (by simpa using hj)).1
theorem OpensL.one {d : Kd α} {G : α → Prop} (h : Opens P d t G) : OpensL P d [t] G := by
  intro H enc W base sp held fuel cs ⟨⟨x, hx⟩, hd⟩
  have hd : cs.drop (P.cellsOf t) = [] := hd
  have : cs.take (P.cellsOf t) = cs := List.take_of_length_le (by simpa using hd)
  rw [this] at hx
  exact h _ _ _ _ _ _ _ _ _ hx
theorem OpensL.cons {a : Kd α} {b : Kd β} {G : α → Prop} {G' : β → Prop} (h : Opens P a t G) (hs : OpensL P b ts G') : OpensL P (Kd.pair a b) (t :: ts) (fun x => G x.1 ∧ G' x.2) := by
  intro H enc W base sp held fuel cs ⟨⟨x, hx⟩, hd⟩
  obtain ⟨y, hK, hG⟩ := h _ _ _ _ _ _ _ _ _ hx
  obtain ⟨z, hK', hG'⟩ := hs _ _ _ _ _ _ _ _ hd
  exact ⟨(y, z), ⟨_, _, (List.take_append_drop _ _).symm, hK, hK'⟩, hG, hG'⟩
theorem Opens.iso {d : Kd α} {f : β → α} {G : α → Prop} (g : α → β) (hg : ∀ y, f (g y) = y) (h : Opens P d t G) : Opens P (Kd.iso d f) t (fun x => G (f x)) := by
  intro H enc W base sp held fuel cs x hx
  obtain ⟨y, hK, hG⟩ := h _ _ _ _ _ _ _ _ _ hx
  exact ⟨g y, by show d.K W (f (g y)) cs; rw [hg]; exact hK, by show G (f (g y)); rw [hg]; exact hG⟩
def offs (P : Program) : Nat → List Field → Bool
  | _, [] => true
  | o, f :: r => f.offset == o && offs P (o + P.cellsOf f.type) r
def total (P : Program) : List Field → Nat
  | [] => 0
  | f :: r => P.cellsOf f.type + total P r
theorem chain_of {f : TypeId → List Value → Prop} : ∀ (l : List Field) (o : Nat) (cs : List Value), offs P o l = true → cs.length = o + total P l →
    (∀ (i : Nat) (g : Field), l[i]? = some g → f g.type ((cs.drop g.offset).take (P.cellsOf g.type))) → Chain P f (l.map (·.type)) (cs.drop o)
  | [], o, cs, _, hl, _ => by
    show cs.drop o = []
    simp only [total, Nat.add_zero] at hl
    exact List.drop_of_length_le (by omega)
  | g :: r, o, cs, ho, hl, h => by
    simp only [offs, Bool.and_eq_true, beq_iff_eq] at ho
    simp only [total] at hl
    refine ⟨?_, ?_⟩
    · have := h 0 g rfl
      rwa [ho.1] at this
    · have := chain_of r (o + P.cellsOf g.type) cs ho.2 (by omega) (fun i g' hg' => h (i + 1) g' (by simpa using hg'))
      rw [List.drop_drop]
      exact this
theorem Opens.struct {d : Kd α} {G : α → Prop} {fs : Array Field} (ht : P.underlying t = some (.struct fs)) (hc : (offs P 0 fs.toList && total P fs.toList == P.cellsOf t) = true) (h : OpensL P d (fs.toList.map (·.type)) G) : Opens P d t G := by
  intro H enc W base sp held fuel cs x hx
  obtain ⟨xs, n, _, _, hlen, hxl, hf⟩ := DataW.trod_struct ht hx
  simp only [Bool.and_eq_true, beq_iff_eq] at hc
  refine h H enc W base sp held n cs ?_
  refine chain_of fs.toList 0 cs hc.1 (by omega) (fun i g hg => ?_)
  have hg' : fs[i]? = some g := by simpa using hg
  have hi : i < fs.size := (Array.getElem?_eq_some_iff.1 hg').1
  rw [hf i g hg', List.getElem?_eq_getElem (by omega)]
  exact ⟨_, rfl⟩
end
end Go.Proofs.Ytdgknikgfjhohaa.OpenK
