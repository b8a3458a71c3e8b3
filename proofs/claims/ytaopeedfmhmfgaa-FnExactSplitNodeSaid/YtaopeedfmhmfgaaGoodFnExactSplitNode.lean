import Derived.Test.YtaopeedfmhmfgaaPFnExactSplitNodex6
import Derived.Test.YtaopeedfmhmfgaaOpenK
namespace Go.Proofs.Ytaopeedfmhmfgaa
open Go.RowKit Go.Proofs.Ytaopeedfmhmfgaa.PFnExactSplitNode Go.Proofs.YtaopeedfmhmfgaaW.PrintWords Go.Proofs.YtaopeedfmhmfgaaW.PrintLast Go.Proofs.Ytaopeedfmhmfgaa.OpenK
def PFnExactSplitNode.g112 : PFnExactSplitNode.S112 → Prop := fun x => (okInt .i64) x.f0 ∧ (okInt .i64) x.f1 ∧ (okInt .i64) x.f2
theorem PFnExactSplitNode.open112 : Opens Try.prog k112 112 PFnExactSplitNode.g112 :=
  Opens.iso (fun p => ⟨p.1, p.2.1, p.2.2⟩) (fun _ => rfl) (Opens.struct Try.underlying112 (by kernel_rfl) (OpensL.cons (Opens.int Try.underlying3) (OpensL.cons (Opens.int Try.underlying3) (OpensL.one (Opens.int Try.underlying3)))))
end Go.Proofs.Ytaopeedfmhmfgaa
