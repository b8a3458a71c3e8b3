import Derived.Test.YtakpkmlbklahhaaPFnExactEqualEnginesx18
import Derived.Test.YtakpkmlbklahhaaOpenKV
namespace Go.Proofs.Ytakpkmlbklahhaa
open Go.RowKit Go.Proofs.Ytakpkmlbklahhaa.PFnExactEqualEngines Go.Proofs.YtakpkmlbklahhaaW.PrintWords Go.Proofs.YtakpkmlbklahhaaW.PrintLast Go.Proofs.Ytakpkmlbklahhaa.OpenK
def PFnExactEqualEngines.g207 : PFnExactEqualEngines.S207 → Prop := fun x => (okInt .i64) x.f0 ∧ (okInt .i64) x.f1 ∧ (okInt .i64) x.f2 ∧ (okInt .i64) x.f3 ∧ (okInt .i64) x.f4
def PFnExactEqualEngines.g189 : PFnExactEqualEngines.S189 → Prop := fun x => (okInt .i64) x.f0 ∧ (okInt .i64) x.f1
def PFnExactEqualEngines.g191 : PFnExactEqualEngines.S191 → Prop := fun x => (okInt .i64) x.f0 ∧ (okInt .i64) x.f1
def PFnExactEqualEngines.g60 : PFnExactEqualEngines.S60 → Prop := fun x => (okInt .i64) x.f0 ∧ (okInt .i64) x.f1 ∧ (okInt .i64) x.f2 ∧ (okInt .i64) x.f3 ∧ (okInt .i64) x.f4 ∧ (okInt .i64) x.f5 ∧ (okInt .i64) x.f6 ∧ (okRow PFnExactEqualEngines.g189) x.f7 ∧ (okRow PFnExactEqualEngines.g191) x.f8
def PFnExactEqualEngines.g160 : PFnExactEqualEngines.S160 → Prop := fun x => (okInt .i64) x.f0 ∧ (okInt .i64) x.f1
def PFnExactEqualEngines.g183 : PFnExactEqualEngines.S183 → Prop := fun x => (okInt .i64) x.f0 ∧ (okInt .i64) x.f1
theorem PFnExactEqualEngines.open207 : Opens Try.prog k207 207 PFnExactEqualEngines.g207 :=
  Opens.iso (fun p => ⟨p.1, p.2.1, p.2.2.1, p.2.2.2.1, p.2.2.2.2⟩) (fun _ => rfl) (Opens.struct Try.underlying207 (by kernel_rfl) (OpensL.cons (Opens.int Try.underlying3) (OpensL.cons (Opens.int Try.underlying3) (OpensL.cons (Opens.int Try.underlying3) (OpensL.cons (Opens.int Try.underlying3) (OpensL.one (Opens.int Try.underlying3)))))))
theorem PFnExactEqualEngines.open189 : Opens Try.prog k189 189 PFnExactEqualEngines.g189 :=
  Opens.iso (fun p => ⟨p.1, p.2⟩) (fun _ => rfl) (Opens.struct Try.underlying189 (by kernel_rfl) (OpensL.cons (Opens.int Try.underlying3) (OpensL.one (Opens.int Try.underlying3))))
theorem PFnExactEqualEngines.open191 : Opens Try.prog k191 191 PFnExactEqualEngines.g191 :=
  Opens.iso (fun p => ⟨p.1, p.2⟩) (fun _ => rfl) (Opens.struct Try.underlying191 (by kernel_rfl) (OpensL.cons (Opens.int Try.underlying3) (OpensL.one (Opens.int Try.underlying3))))
theorem PFnExactEqualEngines.open60 : Opens Try.prog k60 60 PFnExactEqualEngines.g60 :=
  Opens.iso (fun p => ⟨p.1, p.2.1, p.2.2.1, p.2.2.2.1, p.2.2.2.2.1, p.2.2.2.2.2.1, p.2.2.2.2.2.2.1, p.2.2.2.2.2.2.2.1, p.2.2.2.2.2.2.2.2⟩) (fun _ => rfl) (Opens.struct Try.underlying60 (by kernel_rfl) (OpensL.cons (Opens.int Try.underlying3) (OpensL.cons (Opens.int Try.underlying3) (OpensL.cons (Opens.int Try.underlying3) (OpensL.cons (Opens.int Try.underlying3) (OpensL.cons (Opens.int Try.underlying3) (OpensL.cons (Opens.int Try.underlying3) (OpensL.cons (Opens.int Try.underlying3) (OpensL.cons (Opens.slice z189 Try.underlying57 (by kernel_rfl) PFnExactEqualEngines.open189) (OpensL.one (Opens.slice z191 Try.underlying58 (by kernel_rfl) PFnExactEqualEngines.open191)))))))))))
theorem PFnExactEqualEngines.open160 : Opens Try.prog k160 160 PFnExactEqualEngines.g160 :=
  Opens.iso (fun p => ⟨p.1, p.2⟩) (fun _ => rfl) (Opens.struct Try.underlying160 (by kernel_rfl) (OpensL.cons (Opens.int Try.underlying3) (OpensL.one (Opens.int Try.underlying3))))
theorem PFnExactEqualEngines.open183 : Opens Try.prog k183 183 PFnExactEqualEngines.g183 :=
  Opens.iso (fun p => ⟨p.1, p.2⟩) (fun _ => rfl) (Opens.struct Try.underlying183 (by kernel_rfl) (OpensL.cons (Opens.int Try.underlying3) (OpensL.one (Opens.int Try.underlying3))))
end Go.Proofs.Ytakpkmlbklahhaa
