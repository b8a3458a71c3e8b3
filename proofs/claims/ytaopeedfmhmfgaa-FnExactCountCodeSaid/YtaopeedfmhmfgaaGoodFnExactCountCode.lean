import Derived.Test.YtaopeedfmhmfgaaPFnExactCountCodex2
import Derived.Test.YtaopeedfmhmfgaaOpenK
namespace Go.Proofs.Ytaopeedfmhmfgaa
open Go.RowKit Go.Proofs.Ytaopeedfmhmfgaa.PFnExactCountCode Go.Proofs.YtaopeedfmhmfgaaW.PrintWords Go.Proofs.YtaopeedfmhmfgaaW.PrintLast Go.Proofs.Ytaopeedfmhmfgaa.OpenK
def PFnExactCountCode.g80 : PFnExactCountCode.S80 → Prop := fun x => (okInt .i64) x.f0 ∧ (okRow (okInt .i64)) x.f1
theorem PFnExactCountCode.open80 : Opens Try.prog k80 80 PFnExactCountCode.g80 :=
  Opens.iso (fun p => ⟨p.1, p.2⟩) (fun _ => rfl) (Opens.struct Try.underlying80 (by kernel_rfl) (OpensL.cons (Opens.int Try.underlying3) (OpensL.one (Opens.slice (0 : Int) Try.underlying65 (by kernel_rfl) (Opens.int Try.underlying3)))))
end Go.Proofs.Ytaopeedfmhmfgaa
