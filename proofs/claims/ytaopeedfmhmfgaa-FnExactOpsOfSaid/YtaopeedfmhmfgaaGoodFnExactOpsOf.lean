import Derived.Test.YtaopeedfmhmfgaaPFnExactOpsOfx3
import Derived.Test.YtaopeedfmhmfgaaOpenK
namespace Go.Proofs.Ytaopeedfmhmfgaa
open Go.RowKit Go.Proofs.Ytaopeedfmhmfgaa.PFnExactOpsOf Go.Proofs.YtaopeedfmhmfgaaW.PrintWords Go.Proofs.YtaopeedfmhmfgaaW.PrintLast Go.Proofs.Ytaopeedfmhmfgaa.OpenK
def PFnExactOpsOf.g105 : PFnExactOpsOf.S105 → Prop := fun x => (okInt .i64) x.f0 ∧ (okInt .i64) x.f1 ∧ (okInt .i64) x.f2 ∧ (okInt .i64) x.f3 ∧ (okInt .i64) x.f4 ∧ (okInt .i64) x.f5
theorem PFnExactOpsOf.open105 : Opens Try.prog k105 105 PFnExactOpsOf.g105 :=
  Opens.iso (fun p => ⟨p.1, p.2.1, p.2.2.1, p.2.2.2.1, p.2.2.2.2.1, p.2.2.2.2.2⟩) (fun _ => rfl) (Opens.struct Try.underlying105 (by kernel_rfl) (OpensL.cons (Opens.int Try.underlying3) (OpensL.cons (Opens.int Try.underlying3) (OpensL.cons (Opens.int Try.underlying3) (OpensL.cons (Opens.int Try.underlying3) (OpensL.cons (Opens.int Try.underlying3) (OpensL.one (Opens.int Try.underlying3))))))))
end Go.Proofs.Ytaopeedfmhmfgaa
