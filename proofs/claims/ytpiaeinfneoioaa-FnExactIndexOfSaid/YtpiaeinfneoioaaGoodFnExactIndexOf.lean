import Derived.Test.YtpiaeinfneoioaaPFnExactIndexOfx11
import Derived.Test.YtpiaeinfneoioaaOpenKV
namespace Go.Proofs.Ytpiaeinfneoioaa
open Go.RowKit Go.Proofs.Ytpiaeinfneoioaa.PFnExactIndexOf Go.Proofs.YtpiaeinfneoioaaW.PrintWords Go.Proofs.YtpiaeinfneoioaaW.PrintLast Go.Proofs.Ytpiaeinfneoioaa.OpenK
def PFnExactIndexOf.g236 : PFnExactIndexOf.S236 → Prop := fun x => (okInt .i64) x.f0 ∧ (okInt .i64) x.f1 ∧ (okInt .i64) x.f2 ∧ (okInt .i64) x.f3 ∧ (okInt .i64) x.f4
theorem PFnExactIndexOf.open236 : Opens Try.prog k236 236 PFnExactIndexOf.g236 :=
  Opens.iso (fun p => ⟨p.1, p.2.1, p.2.2.1, p.2.2.2.1, p.2.2.2.2⟩) (fun _ => rfl) (Opens.struct Try.underlying236 (by kernel_rfl) (OpensL.cons (Opens.int Try.underlying3) (OpensL.cons (Opens.int Try.underlying3) (OpensL.cons (Opens.int Try.underlying3) (OpensL.cons (Opens.int Try.underlying3) (OpensL.one (Opens.int Try.underlying3)))))))
end Go.Proofs.Ytpiaeinfneoioaa
