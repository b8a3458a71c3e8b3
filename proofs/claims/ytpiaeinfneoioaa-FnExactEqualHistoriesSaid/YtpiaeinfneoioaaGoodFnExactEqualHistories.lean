import Derived.Test.YtpiaeinfneoioaaPFnExactEqualHistoriesx8
import Derived.Test.YtpiaeinfneoioaaOpenK
namespace Go.Proofs.Ytpiaeinfneoioaa
open Go.RowKit Go.Proofs.Ytpiaeinfneoioaa.PFnExactEqualHistories Go.Proofs.YtpiaeinfneoioaaW.PrintWords Go.Proofs.YtpiaeinfneoioaaW.PrintLast Go.Proofs.Ytpiaeinfneoioaa.OpenK
def PFnExactEqualHistories.g30 : PFnExactEqualHistories.S30 → Prop := fun x => (okInt .i64) x.f0 ∧ (okInt .i64) x.f1
def PFnExactEqualHistories.g208 : PFnExactEqualHistories.S208 → Prop := fun x => (okInt .i64) x.f0 ∧ (okInt .i64) x.f1
def PFnExactEqualHistories.g124 : PFnExactEqualHistories.S124 → Prop := fun x => (okInt .i64) x.f0 ∧ (okInt .i64) x.f1 ∧ (okRow PFnExactEqualHistories.g30) x.f2 ∧ (okRow PFnExactEqualHistories.g208) x.f3
theorem PFnExactEqualHistories.open30 : Opens Try.prog k30 30 PFnExactEqualHistories.g30 :=
  Opens.iso (fun p => ⟨p.1, p.2⟩) (fun _ => rfl) (Opens.struct Try.underlying30 (by kernel_rfl) (OpensL.cons (Opens.int Try.underlying3) (OpensL.one (Opens.int Try.underlying3))))
theorem PFnExactEqualHistories.open208 : Opens Try.prog k208 208 PFnExactEqualHistories.g208 :=
  Opens.iso (fun p => ⟨p.1, p.2⟩) (fun _ => rfl) (Opens.struct Try.underlying208 (by kernel_rfl) (OpensL.cons (Opens.int Try.underlying3) (OpensL.one (Opens.int Try.underlying3))))
theorem PFnExactEqualHistories.open124 : Opens Try.prog k124 124 PFnExactEqualHistories.g124 :=
  Opens.iso (fun p => ⟨p.1, p.2.1, p.2.2.1, p.2.2.2⟩) (fun _ => rfl) (Opens.struct Try.underlying124 (by kernel_rfl) (OpensL.cons (Opens.int Try.underlying3) (OpensL.cons (Opens.int Try.underlying3) (OpensL.cons (Opens.slice z30 Try.underlying57 (by kernel_rfl) PFnExactEqualHistories.open30) (OpensL.one (Opens.slice z208 Try.underlying58 (by kernel_rfl) PFnExactEqualHistories.open208))))))
end Go.Proofs.Ytpiaeinfneoioaa
