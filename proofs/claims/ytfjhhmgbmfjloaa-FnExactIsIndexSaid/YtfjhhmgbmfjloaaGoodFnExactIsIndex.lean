import Derived.Test.YtfjhhmgbmfjloaaPFnExactIsIndexx3
import Derived.Test.YtfjhhmgbmfjloaaOpenK
namespace Go.Proofs.Ytfjhhmgbmfjloaa
open Go.RowKit Go.Proofs.Ytfjhhmgbmfjloaa.PFnExactIsIndex Go.Proofs.YtfjhhmgbmfjloaaW.PrintWords Go.Proofs.YtfjhhmgbmfjloaaW.PrintLast Go.Proofs.Ytfjhhmgbmfjloaa.OpenK
def PFnExactIsIndex.g98 : PFnExactIsIndex.S98 → Prop := fun x => (okInt .i64) x.f0 ∧ (okInt .i64) x.f1 ∧ (okInt .i64) x.f2
theorem PFnExactIsIndex.open98 : Opens Try.prog k98 98 PFnExactIsIndex.g98 :=
  Opens.iso (fun p => ⟨p.1, p.2.1, p.2.2⟩) (fun _ => rfl) (Opens.struct Try.underlying98 (by kernel_rfl) (OpensL.cons (Opens.int Try.underlying3) (OpensL.cons (Opens.int Try.underlying3) (OpensL.one (Opens.int Try.underlying3)))))
end Go.Proofs.Ytfjhhmgbmfjloaa
