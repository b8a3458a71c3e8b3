import Derived.Test.YtaopeedfmhmfgaaPFnExactIsProgramx7
import Derived.Test.YtaopeedfmhmfgaaOpenK
namespace Go.Proofs.Ytaopeedfmhmfgaa
open Go.RowKit Go.Proofs.Ytaopeedfmhmfgaa.PFnExactIsProgram Go.Proofs.YtaopeedfmhmfgaaW.PrintWords Go.Proofs.YtaopeedfmhmfgaaW.PrintLast Go.Proofs.Ytaopeedfmhmfgaa.OpenK
def PFnExactIsProgram.g105 : PFnExactIsProgram.S105 → Prop := fun x => (okInt .i64) x.f0 ∧ (okInt .i64) x.f1 ∧ (okInt .i64) x.f2 ∧ (okInt .i64) x.f3 ∧ (okInt .i64) x.f4 ∧ (okInt .i64) x.f5
theorem PFnExactIsProgram.open105 : Opens Try.prog k105 105 PFnExactIsProgram.g105 :=
  Opens.iso (fun p => ⟨p.1, p.2.1, p.2.2.1, p.2.2.2.1, p.2.2.2.2.1, p.2.2.2.2.2⟩) (fun _ => rfl) (Opens.struct Try.underlying105 (by kernel_rfl) (OpensL.cons (Opens.int Try.underlying3) (OpensL.cons (Opens.int Try.underlying3) (OpensL.cons (Opens.int Try.underlying3) (OpensL.cons (Opens.int Try.underlying3) (OpensL.cons (Opens.int Try.underlying3) (OpensL.one (Opens.int Try.underlying3))))))))
end Go.Proofs.Ytaopeedfmhmfgaa
