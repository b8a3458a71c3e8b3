import Derived.Test.YtpiaeinfneoioaaPFnExactCommittedStampx9
import Derived.Test.YtpiaeinfneoioaaOpenK
namespace Go.Proofs.Ytpiaeinfneoioaa
open Go.RowKit Go.Proofs.Ytpiaeinfneoioaa.PFnExactCommittedStamp Go.Proofs.YtpiaeinfneoioaaW.PrintWords Go.Proofs.YtpiaeinfneoioaaW.PrintLast Go.Proofs.Ytpiaeinfneoioaa.OpenK
def PFnExactCommittedStamp.g30 : PFnExactCommittedStamp.S30 → Prop := fun x => (okInt .i64) x.f0 ∧ (okInt .i64) x.f1
def PFnExactCommittedStamp.g208 : PFnExactCommittedStamp.S208 → Prop := fun x => (okInt .i64) x.f0 ∧ (okInt .i64) x.f1
theorem PFnExactCommittedStamp.open30 : Opens Try.prog k30 30 PFnExactCommittedStamp.g30 :=
  Opens.iso (fun p => ⟨p.1, p.2⟩) (fun _ => rfl) (Opens.struct Try.underlying30 (by kernel_rfl) (OpensL.cons (Opens.int Try.underlying3) (OpensL.one (Opens.int Try.underlying3))))
theorem PFnExactCommittedStamp.open208 : Opens Try.prog k208 208 PFnExactCommittedStamp.g208 :=
  Opens.iso (fun p => ⟨p.1, p.2⟩) (fun _ => rfl) (Opens.struct Try.underlying208 (by kernel_rfl) (OpensL.cons (Opens.int Try.underlying3) (OpensL.one (Opens.int Try.underlying3))))
end Go.Proofs.Ytpiaeinfneoioaa
