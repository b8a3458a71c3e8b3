import Derived.Test.YtfjhhmgbmfjloaaPFnExactAreLocksx4
import Derived.Test.YtfjhhmgbmfjloaaOpenK
namespace Go.Proofs.Ytfjhhmgbmfjloaa
open Go.RowKit Go.Proofs.Ytfjhhmgbmfjloaa.PFnExactAreLocks Go.Proofs.YtfjhhmgbmfjloaaW.PrintWords Go.Proofs.YtfjhhmgbmfjloaaW.PrintLast Go.Proofs.Ytfjhhmgbmfjloaa.OpenK
def PFnExactAreLocks.g93 : PFnExactAreLocks.S93 → Prop := fun x => (okInt .i64) x.f0 ∧ (okInt .i64) x.f1
theorem PFnExactAreLocks.open93 : Opens Try.prog k93 93 PFnExactAreLocks.g93 :=
  Opens.iso (fun p => ⟨p.1, p.2⟩) (fun _ => rfl) (Opens.struct Try.underlying93 (by kernel_rfl) (OpensL.cons (Opens.int Try.underlying3) (OpensL.one (Opens.int Try.underlying3))))
end Go.Proofs.Ytfjhhmgbmfjloaa
