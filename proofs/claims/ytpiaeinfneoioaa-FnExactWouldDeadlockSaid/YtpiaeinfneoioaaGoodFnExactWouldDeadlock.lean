import Derived.Test.YtpiaeinfneoioaaPFnExactWouldDeadlockx9
import Derived.Test.YtpiaeinfneoioaaOpenK
namespace Go.Proofs.Ytpiaeinfneoioaa
open Go.RowKit Go.Proofs.Ytpiaeinfneoioaa.PFnExactWouldDeadlock Go.Proofs.YtpiaeinfneoioaaW.PrintWords Go.Proofs.YtpiaeinfneoioaaW.PrintLast Go.Proofs.Ytpiaeinfneoioaa.OpenK
def PFnExactWouldDeadlock.g189 : PFnExactWouldDeadlock.S189 → Prop := fun x => (okInt .i64) x.f0 ∧ (okInt .i64) x.f1
theorem PFnExactWouldDeadlock.open189 : Opens Try.prog k189 189 PFnExactWouldDeadlock.g189 :=
  Opens.iso (fun p => ⟨p.1, p.2⟩) (fun _ => rfl) (Opens.struct Try.underlying189 (by kernel_rfl) (OpensL.cons (Opens.int Try.underlying3) (OpensL.one (Opens.int Try.underlying3))))
end Go.Proofs.Ytpiaeinfneoioaa
