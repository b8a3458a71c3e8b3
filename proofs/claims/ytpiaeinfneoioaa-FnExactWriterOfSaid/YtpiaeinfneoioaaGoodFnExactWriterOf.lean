import Derived.Test.YtpiaeinfneoioaaPFnExactWriterOfx5
import Derived.Test.YtpiaeinfneoioaaOpenK
namespace Go.Proofs.Ytpiaeinfneoioaa
open Go.RowKit Go.Proofs.Ytpiaeinfneoioaa.PFnExactWriterOf Go.Proofs.YtpiaeinfneoioaaW.PrintWords Go.Proofs.YtpiaeinfneoioaaW.PrintLast Go.Proofs.Ytpiaeinfneoioaa.OpenK
def PFnExactWriterOf.g30 : PFnExactWriterOf.S30 → Prop := fun x => (okInt .i64) x.f0 ∧ (okInt .i64) x.f1
def PFnExactWriterOf.g208 : PFnExactWriterOf.S208 → Prop := fun x => (okInt .i64) x.f0 ∧ (okInt .i64) x.f1
def PFnExactWriterOf.g124 : PFnExactWriterOf.S124 → Prop := fun x => (okInt .i64) x.f0 ∧ (okInt .i64) x.f1 ∧ (okRow PFnExactWriterOf.g30) x.f2 ∧ (okRow PFnExactWriterOf.g208) x.f3
theorem PFnExactWriterOf.open30 : Opens Try.prog k30 30 PFnExactWriterOf.g30 :=
  Opens.iso (fun p => ⟨p.1, p.2⟩) (fun _ => rfl) (Opens.struct Try.underlying30 (by kernel_rfl) (OpensL.cons (Opens.int Try.underlying3) (OpensL.one (Opens.int Try.underlying3))))
theorem PFnExactWriterOf.open208 : Opens Try.prog k208 208 PFnExactWriterOf.g208 :=
  Opens.iso (fun p => ⟨p.1, p.2⟩) (fun _ => rfl) (Opens.struct Try.underlying208 (by kernel_rfl) (OpensL.cons (Opens.int Try.underlying3) (OpensL.one (Opens.int Try.underlying3))))
theorem PFnExactWriterOf.open124 : Opens Try.prog k124 124 PFnExactWriterOf.g124 :=
  Opens.iso (fun p => ⟨p.1, p.2.1, p.2.2.1, p.2.2.2⟩) (fun _ => rfl) (Opens.struct Try.underlying124 (by kernel_rfl) (OpensL.cons (Opens.int Try.underlying3) (OpensL.cons (Opens.int Try.underlying3) (OpensL.cons (Opens.slice z30 Try.underlying57 (by kernel_rfl) PFnExactWriterOf.open30) (OpensL.one (Opens.slice z208 Try.underlying58 (by kernel_rfl) PFnExactWriterOf.open208))))))
end Go.Proofs.Ytpiaeinfneoioaa
