import Derived.Test.YtakpkmlbklahhaaPFnExactWriteCodex21
import Derived.Test.YtakpkmlbklahhaaOpenKV
namespace Go.Proofs.Ytakpkmlbklahhaa
open Go.RowKit Go.Proofs.Ytakpkmlbklahhaa.PFnExactWriteCode Go.Proofs.YtakpkmlbklahhaaW.PrintWords Go.Proofs.YtakpkmlbklahhaaW.PrintLast Go.Proofs.Ytakpkmlbklahhaa.OpenK
def PFnExactWriteCode.g207 : PFnExactWriteCode.S207 → Prop := fun x => (okInt .i64) x.f0 ∧ (okInt .i64) x.f1 ∧ (okInt .i64) x.f2 ∧ (okInt .i64) x.f3 ∧ (okInt .i64) x.f4
def PFnExactWriteCode.g160 : PFnExactWriteCode.S160 → Prop := fun x => (okInt .i64) x.f0 ∧ (okInt .i64) x.f1
def PFnExactWriteCode.g189 : PFnExactWriteCode.S189 → Prop := fun x => (okInt .i64) x.f0 ∧ (okInt .i64) x.f1
def PFnExactWriteCode.g191 : PFnExactWriteCode.S191 → Prop := fun x => (okInt .i64) x.f0 ∧ (okInt .i64) x.f1
theorem PFnExactWriteCode.open207 : Opens Try.prog k207 207 PFnExactWriteCode.g207 :=
  Opens.iso (fun p => ⟨p.1, p.2.1, p.2.2.1, p.2.2.2.1, p.2.2.2.2⟩) (fun _ => rfl) (Opens.struct Try.underlying207 (by kernel_rfl) (OpensL.cons (Opens.int Try.underlying3) (OpensL.cons (Opens.int Try.underlying3) (OpensL.cons (Opens.int Try.underlying3) (OpensL.cons (Opens.int Try.underlying3) (OpensL.one (Opens.int Try.underlying3)))))))
theorem PFnExactWriteCode.open160 : Opens Try.prog k160 160 PFnExactWriteCode.g160 :=
  Opens.iso (fun p => ⟨p.1, p.2⟩) (fun _ => rfl) (Opens.struct Try.underlying160 (by kernel_rfl) (OpensL.cons (Opens.int Try.underlying3) (OpensL.one (Opens.int Try.underlying3))))
theorem PFnExactWriteCode.open189 : Opens Try.prog k189 189 PFnExactWriteCode.g189 :=
  Opens.iso (fun p => ⟨p.1, p.2⟩) (fun _ => rfl) (Opens.struct Try.underlying189 (by kernel_rfl) (OpensL.cons (Opens.int Try.underlying3) (OpensL.one (Opens.int Try.underlying3))))
theorem PFnExactWriteCode.open191 : Opens Try.prog k191 191 PFnExactWriteCode.g191 :=
  Opens.iso (fun p => ⟨p.1, p.2⟩) (fun _ => rfl) (Opens.struct Try.underlying191 (by kernel_rfl) (OpensL.cons (Opens.int Try.underlying3) (OpensL.one (Opens.int Try.underlying3))))
end Go.Proofs.Ytakpkmlbklahhaa
