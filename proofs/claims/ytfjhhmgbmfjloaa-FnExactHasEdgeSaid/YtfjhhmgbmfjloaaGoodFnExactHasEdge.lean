import Derived.Test.YtfjhhmgbmfjloaaPFnExactHasEdgex2
import Derived.Test.YtfjhhmgbmfjloaaOpenK
namespace Go.Proofs.Ytfjhhmgbmfjloaa
open Go.RowKit Go.Proofs.Ytfjhhmgbmfjloaa.PFnExactHasEdge Go.Proofs.YtfjhhmgbmfjloaaW.PrintWords Go.Proofs.YtfjhhmgbmfjloaaW.PrintLast Go.Proofs.Ytfjhhmgbmfjloaa.OpenK
def PFnExactHasEdge.g103 : PFnExactHasEdge.S103 → Prop := fun x => (okInt .i64) x.f0 ∧ (okInt .i64) x.f1 ∧ (okInt .i64) x.f2 ∧ (okInt .i64) x.f3
theorem PFnExactHasEdge.open103 : Opens Try.prog k103 103 PFnExactHasEdge.g103 :=
  Opens.iso (fun p => ⟨p.1, p.2.1, p.2.2.1, p.2.2.2⟩) (fun _ => rfl) (Opens.struct Try.underlying103 (by kernel_rfl) (OpensL.cons (Opens.int Try.underlying3) (OpensL.cons (Opens.int Try.underlying3) (OpensL.cons (Opens.int Try.underlying3) (OpensL.one (Opens.int Try.underlying3))))))
end Go.Proofs.Ytfjhhmgbmfjloaa
