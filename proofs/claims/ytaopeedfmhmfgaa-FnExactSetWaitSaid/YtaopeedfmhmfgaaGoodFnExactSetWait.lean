import Derived.Test.YtaopeedfmhmfgaaPFnExactSetWaitx6
import Derived.Test.YtaopeedfmhmfgaaOpenK
namespace Go.Proofs.Ytaopeedfmhmfgaa
open Go.RowKit Go.Proofs.Ytaopeedfmhmfgaa.PFnExactSetWait Go.Proofs.YtaopeedfmhmfgaaW.PrintWords Go.Proofs.YtaopeedfmhmfgaaW.PrintLast Go.Proofs.Ytaopeedfmhmfgaa.OpenK
def PFnExactSetWait.g87 : PFnExactSetWait.S87 → Prop := fun x => (okInt .i64) x.f0 ∧ (okInt .i64) x.f1
theorem PFnExactSetWait.open87 : Opens Try.prog k87 87 PFnExactSetWait.g87 :=
  Opens.iso (fun p => ⟨p.1, p.2⟩) (fun _ => rfl) (Opens.struct Try.underlying87 (by kernel_rfl) (OpensL.cons (Opens.int Try.underlying3) (OpensL.one (Opens.int Try.underlying3))))
end Go.Proofs.Ytaopeedfmhmfgaa
