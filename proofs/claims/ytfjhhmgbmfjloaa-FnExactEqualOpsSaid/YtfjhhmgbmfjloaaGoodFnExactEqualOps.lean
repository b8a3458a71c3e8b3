import Derived.Test.YtfjhhmgbmfjloaaPFnExactEqualOpsx3
import Derived.Test.YtfjhhmgbmfjloaaOpenK
namespace Go.Proofs.Ytfjhhmgbmfjloaa
open Go.RowKit Go.Proofs.Ytfjhhmgbmfjloaa.PFnExactEqualOps Go.Proofs.YtfjhhmgbmfjloaaW.PrintWords Go.Proofs.YtfjhhmgbmfjloaaW.PrintLast Go.Proofs.Ytfjhhmgbmfjloaa.OpenK
def PFnExactEqualOps.g30 : PFnExactEqualOps.S30 → Prop := fun x => (okInt .i64) x.f0 ∧ (okInt .i64) x.f1 ∧ (okInt .i64) x.f2 ∧ (okInt .i64) x.f3 ∧ (okInt .i64) x.f4 ∧ (okInt .i64) x.f5
theorem PFnExactEqualOps.open30 : Opens Try.prog k30 30 PFnExactEqualOps.g30 :=
  Opens.iso (fun p => ⟨p.1, p.2.1, p.2.2.1, p.2.2.2.1, p.2.2.2.2.1, p.2.2.2.2.2⟩) (fun _ => rfl) (Opens.struct Try.underlying30 (by kernel_rfl) (OpensL.cons (Opens.int Try.underlying3) (OpensL.cons (Opens.int Try.underlying3) (OpensL.cons (Opens.int Try.underlying3) (OpensL.cons (Opens.int Try.underlying3) (OpensL.cons (Opens.int Try.underlying3) (OpensL.one (Opens.int Try.underlying3))))))))
end Go.Proofs.Ytfjhhmgbmfjloaa
