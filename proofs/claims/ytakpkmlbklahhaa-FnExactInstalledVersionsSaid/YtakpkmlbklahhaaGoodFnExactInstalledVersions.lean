import Derived.Test.YtakpkmlbklahhaaPFnExactInstalledVersionsx15
import Derived.Test.YtakpkmlbklahhaaOpenKU
namespace Go.Proofs.Ytakpkmlbklahhaa
open Go.RowKit Go.Proofs.Ytakpkmlbklahhaa.PFnExactInstalledVersions Go.Proofs.YtakpkmlbklahhaaW.PrintWords Go.Proofs.YtakpkmlbklahhaaW.PrintLast Go.Proofs.Ytakpkmlbklahhaa.OpenK
def PFnExactInstalledVersions.g207 : PFnExactInstalledVersions.S207 → Prop := fun x => (okInt .i64) x.f0 ∧ (okInt .i64) x.f1 ∧ (okInt .i64) x.f2 ∧ (okInt .i64) x.f3 ∧ (okInt .i64) x.f4
def PFnExactInstalledVersions.g189 : PFnExactInstalledVersions.S189 → Prop := fun x => (okInt .i64) x.f0 ∧ (okInt .i64) x.f1
def PFnExactInstalledVersions.g191 : PFnExactInstalledVersions.S191 → Prop := fun x => (okInt .i64) x.f0 ∧ (okInt .i64) x.f1
theorem PFnExactInstalledVersions.open207 : Opens Try.prog k207 207 PFnExactInstalledVersions.g207 :=
  Opens.iso (fun p => ⟨p.1, p.2.1, p.2.2.1, p.2.2.2.1, p.2.2.2.2⟩) (fun _ => rfl) (Opens.struct Try.underlying207 (by kernel_rfl) (OpensL.cons (Opens.int Try.underlying3) (OpensL.cons (Opens.int Try.underlying3) (OpensL.cons (Opens.int Try.underlying3) (OpensL.cons (Opens.int Try.underlying3) (OpensL.one (Opens.int Try.underlying3)))))))
theorem PFnExactInstalledVersions.open189 : Opens Try.prog k189 189 PFnExactInstalledVersions.g189 :=
  Opens.iso (fun p => ⟨p.1, p.2⟩) (fun _ => rfl) (Opens.struct Try.underlying189 (by kernel_rfl) (OpensL.cons (Opens.int Try.underlying3) (OpensL.one (Opens.int Try.underlying3))))
theorem PFnExactInstalledVersions.open191 : Opens Try.prog k191 191 PFnExactInstalledVersions.g191 :=
  Opens.iso (fun p => ⟨p.1, p.2⟩) (fun _ => rfl) (Opens.struct Try.underlying191 (by kernel_rfl) (OpensL.cons (Opens.int Try.underlying3) (OpensL.one (Opens.int Try.underlying3))))
end Go.Proofs.Ytakpkmlbklahhaa
