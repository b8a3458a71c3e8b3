import Derived.Test.YtakpkmlbklahhaaPFnExactChooseVersionx16
import Derived.Test.YtakpkmlbklahhaaOpenKU
namespace Go.Proofs.Ytakpkmlbklahhaa
open Go.RowKit Go.Proofs.Ytakpkmlbklahhaa.PFnExactChooseVersion Go.Proofs.YtakpkmlbklahhaaW.PrintWords Go.Proofs.YtakpkmlbklahhaaW.PrintLast Go.Proofs.Ytakpkmlbklahhaa.OpenK
def PFnExactChooseVersion.g207 : PFnExactChooseVersion.S207 → Prop := fun x => (okInt .i64) x.f0 ∧ (okInt .i64) x.f1 ∧ (okInt .i64) x.f2 ∧ (okInt .i64) x.f3 ∧ (okInt .i64) x.f4
def PFnExactChooseVersion.g189 : PFnExactChooseVersion.S189 → Prop := fun x => (okInt .i64) x.f0 ∧ (okInt .i64) x.f1
def PFnExactChooseVersion.g191 : PFnExactChooseVersion.S191 → Prop := fun x => (okInt .i64) x.f0 ∧ (okInt .i64) x.f1
theorem PFnExactChooseVersion.open207 : Opens Try.prog k207 207 PFnExactChooseVersion.g207 :=
  Opens.iso (fun p => ⟨p.1, p.2.1, p.2.2.1, p.2.2.2.1, p.2.2.2.2⟩) (fun _ => rfl) (Opens.struct Try.underlying207 (by kernel_rfl) (OpensL.cons (Opens.int Try.underlying3) (OpensL.cons (Opens.int Try.underlying3) (OpensL.cons (Opens.int Try.underlying3) (OpensL.cons (Opens.int Try.underlying3) (OpensL.one (Opens.int Try.underlying3)))))))
theorem PFnExactChooseVersion.open189 : Opens Try.prog k189 189 PFnExactChooseVersion.g189 :=
  Opens.iso (fun p => ⟨p.1, p.2⟩) (fun _ => rfl) (Opens.struct Try.underlying189 (by kernel_rfl) (OpensL.cons (Opens.int Try.underlying3) (OpensL.one (Opens.int Try.underlying3))))
theorem PFnExactChooseVersion.open191 : Opens Try.prog k191 191 PFnExactChooseVersion.g191 :=
  Opens.iso (fun p => ⟨p.1, p.2⟩) (fun _ => rfl) (Opens.struct Try.underlying191 (by kernel_rfl) (OpensL.cons (Opens.int Try.underlying3) (OpensL.one (Opens.int Try.underlying3))))
end Go.Proofs.Ytakpkmlbklahhaa
