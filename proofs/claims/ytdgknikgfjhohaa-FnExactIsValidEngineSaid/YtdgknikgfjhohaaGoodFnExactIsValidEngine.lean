import Derived.Test.YtdgknikgfjhohaaPFnExactIsValidEnginex26
import Derived.Test.YtdgknikgfjhohaaOpenKT
namespace Go.Proofs.Ytdgknikgfjhohaa
open Go.RowKit Go.Proofs.Ytdgknikgfjhohaa.PFnExactIsValidEngine Go.Proofs.YtdgknikgfjhohaaW.PrintWords Go.Proofs.YtdgknikgfjhohaaW.PrintLast Go.Proofs.Ytdgknikgfjhohaa.OpenK
def PFnExactIsValidEngine.g171 : PFnExactIsValidEngine.S171 → Prop := fun x => (okInt .i64) x.f0 ∧ (okInt .i64) x.f1 ∧ (okInt .i64) x.f2 ∧ (okInt .i64) x.f3 ∧ (okInt .i64) x.f4
def PFnExactIsValidEngine.g173 : PFnExactIsValidEngine.S173 → Prop := fun x => (okInt .i64) x.f0 ∧ (okInt .i64) x.f1
def PFnExactIsValidEngine.g175 : PFnExactIsValidEngine.S175 → Prop := fun x => (okInt .i64) x.f0 ∧ (okInt .i64) x.f1
def PFnExactIsValidEngine.g114 : PFnExactIsValidEngine.S114 → Prop := fun x => (okInt .i64) x.f0 ∧ (okInt .i64) x.f1 ∧ (okInt .i64) x.f2 ∧ (okInt .i64) x.f3 ∧ (okInt .i64) x.f4 ∧ (okInt .i64) x.f5 ∧ (okInt .i64) x.f6 ∧ (okRow PFnExactIsValidEngine.g173) x.f7 ∧ (okRow PFnExactIsValidEngine.g175) x.f8
def PFnExactIsValidEngine.g123 : PFnExactIsValidEngine.S123 → Prop := fun x => (okInt .i64) x.f0 ∧ (okInt .i64) x.f1
def PFnExactIsValidEngine.g125 : PFnExactIsValidEngine.S125 → Prop := fun x => (okInt .i64) x.f0 ∧ (okInt .i64) x.f1
theorem PFnExactIsValidEngine.open171 : Opens Try.prog k171 171 PFnExactIsValidEngine.g171 :=
  Opens.iso (fun p => ⟨p.1, p.2.1, p.2.2.1, p.2.2.2.1, p.2.2.2.2⟩) (fun _ => rfl) (Opens.struct Try.underlying171 (by kernel_rfl) (OpensL.cons (Opens.int Try.underlying3) (OpensL.cons (Opens.int Try.underlying3) (OpensL.cons (Opens.int Try.underlying3) (OpensL.cons (Opens.int Try.underlying3) (OpensL.one (Opens.int Try.underlying3)))))))
theorem PFnExactIsValidEngine.open173 : Opens Try.prog k173 173 PFnExactIsValidEngine.g173 :=
  Opens.iso (fun p => ⟨p.1, p.2⟩) (fun _ => rfl) (Opens.struct Try.underlying173 (by kernel_rfl) (OpensL.cons (Opens.int Try.underlying3) (OpensL.one (Opens.int Try.underlying3))))
theorem PFnExactIsValidEngine.open175 : Opens Try.prog k175 175 PFnExactIsValidEngine.g175 :=
  Opens.iso (fun p => ⟨p.1, p.2⟩) (fun _ => rfl) (Opens.struct Try.underlying175 (by kernel_rfl) (OpensL.cons (Opens.int Try.underlying3) (OpensL.one (Opens.int Try.underlying3))))
theorem PFnExactIsValidEngine.open114 : Opens Try.prog k114 114 PFnExactIsValidEngine.g114 :=
  Opens.iso (fun p => ⟨p.1, p.2.1, p.2.2.1, p.2.2.2.1, p.2.2.2.2.1, p.2.2.2.2.2.1, p.2.2.2.2.2.2.1, p.2.2.2.2.2.2.2.1, p.2.2.2.2.2.2.2.2⟩) (fun _ => rfl) (Opens.struct Try.underlying114 (by kernel_rfl) (OpensL.cons (Opens.int Try.underlying3) (OpensL.cons (Opens.int Try.underlying3) (OpensL.cons (Opens.int Try.underlying3) (OpensL.cons (Opens.int Try.underlying3) (OpensL.cons (Opens.int Try.underlying3) (OpensL.cons (Opens.int Try.underlying3) (OpensL.cons (Opens.int Try.underlying3) (OpensL.cons (Opens.slice z173 Try.underlying111 (by kernel_rfl) PFnExactIsValidEngine.open173) (OpensL.one (Opens.slice z175 Try.underlying112 (by kernel_rfl) PFnExactIsValidEngine.open175)))))))))))
theorem PFnExactIsValidEngine.open123 : Opens Try.prog k123 123 PFnExactIsValidEngine.g123 :=
  Opens.iso (fun p => ⟨p.1, p.2⟩) (fun _ => rfl) (Opens.struct Try.underlying123 (by kernel_rfl) (OpensL.cons (Opens.int Try.underlying3) (OpensL.one (Opens.int Try.underlying3))))
theorem PFnExactIsValidEngine.open125 : Opens Try.prog k125 125 PFnExactIsValidEngine.g125 :=
  Opens.iso (fun p => ⟨p.1, p.2⟩) (fun _ => rfl) (Opens.struct Try.underlying125 (by kernel_rfl) (OpensL.cons (Opens.int Try.underlying3) (OpensL.one (Opens.int Try.underlying3))))
end Go.Proofs.Ytdgknikgfjhohaa
