import Derived.Test.YtpiaeinfneoioaaPFnExactIsHistoryx12
import Derived.Test.YtpiaeinfneoioaaOpenKS
namespace Go.Proofs.Ytpiaeinfneoioaa
open Go.RowKit Go.Proofs.Ytpiaeinfneoioaa.PFnExactIsHistory Go.Proofs.YtpiaeinfneoioaaW.PrintWords Go.Proofs.YtpiaeinfneoioaaW.PrintLast Go.Proofs.Ytpiaeinfneoioaa.OpenK
def PFnExactIsHistory.g30 : PFnExactIsHistory.S30 → Prop := fun x => (okInt .i64) x.f0 ∧ (okInt .i64) x.f1
def PFnExactIsHistory.g208 : PFnExactIsHistory.S208 → Prop := fun x => (okInt .i64) x.f0 ∧ (okInt .i64) x.f1
def PFnExactIsHistory.g124 : PFnExactIsHistory.S124 → Prop := fun x => (okInt .i64) x.f0 ∧ (okInt .i64) x.f1 ∧ (okRow PFnExactIsHistory.g30) x.f2 ∧ (okRow PFnExactIsHistory.g208) x.f3
theorem PFnExactIsHistory.open30 : Opens Try.prog k30 30 PFnExactIsHistory.g30 :=
  Opens.iso (fun p => ⟨p.1, p.2⟩) (fun _ => rfl) (Opens.struct Try.underlying30 (by kernel_rfl) (OpensL.cons (Opens.int Try.underlying3) (OpensL.one (Opens.int Try.underlying3))))
theorem PFnExactIsHistory.open208 : Opens Try.prog k208 208 PFnExactIsHistory.g208 :=
  Opens.iso (fun p => ⟨p.1, p.2⟩) (fun _ => rfl) (Opens.struct Try.underlying208 (by kernel_rfl) (OpensL.cons (Opens.int Try.underlying3) (OpensL.one (Opens.int Try.underlying3))))
theorem PFnExactIsHistory.open124 : Opens Try.prog k124 124 PFnExactIsHistory.g124 :=
  Opens.iso (fun p => ⟨p.1, p.2.1, p.2.2.1, p.2.2.2⟩) (fun _ => rfl) (Opens.struct Try.underlying124 (by kernel_rfl) (OpensL.cons (Opens.int Try.underlying3) (OpensL.cons (Opens.int Try.underlying3) (OpensL.cons (Opens.slice z30 Try.underlying57 (by kernel_rfl) PFnExactIsHistory.open30) (OpensL.one (Opens.slice z208 Try.underlying58 (by kernel_rfl) PFnExactIsHistory.open208))))))
end Go.Proofs.Ytpiaeinfneoioaa
