import Derived.Test.YtpiaeinfneoioaaPFnExactFindEntryx4
import Derived.Test.YtpiaeinfneoioaaOpenK
namespace Go.Proofs.Ytpiaeinfneoioaa
open Go.RowKit Go.Proofs.Ytpiaeinfneoioaa.PFnExactFindEntry Go.Proofs.YtpiaeinfneoioaaW.PrintWords Go.Proofs.YtpiaeinfneoioaaW.PrintLast Go.Proofs.Ytpiaeinfneoioaa.OpenK
def PFnExactFindEntry.g30 : PFnExactFindEntry.S30 → Prop := fun x => (okInt .i64) x.f0 ∧ (okInt .i64) x.f1
def PFnExactFindEntry.g208 : PFnExactFindEntry.S208 → Prop := fun x => (okInt .i64) x.f0 ∧ (okInt .i64) x.f1
def PFnExactFindEntry.g124 : PFnExactFindEntry.S124 → Prop := fun x => (okInt .i64) x.f0 ∧ (okInt .i64) x.f1 ∧ (okRow PFnExactFindEntry.g30) x.f2 ∧ (okRow PFnExactFindEntry.g208) x.f3
theorem PFnExactFindEntry.open30 : Opens Try.prog k30 30 PFnExactFindEntry.g30 :=
  Opens.iso (fun p => ⟨p.1, p.2⟩) (fun _ => rfl) (Opens.struct Try.underlying30 (by kernel_rfl) (OpensL.cons (Opens.int Try.underlying3) (OpensL.one (Opens.int Try.underlying3))))
theorem PFnExactFindEntry.open208 : Opens Try.prog k208 208 PFnExactFindEntry.g208 :=
  Opens.iso (fun p => ⟨p.1, p.2⟩) (fun _ => rfl) (Opens.struct Try.underlying208 (by kernel_rfl) (OpensL.cons (Opens.int Try.underlying3) (OpensL.one (Opens.int Try.underlying3))))
theorem PFnExactFindEntry.open124 : Opens Try.prog k124 124 PFnExactFindEntry.g124 :=
  Opens.iso (fun p => ⟨p.1, p.2.1, p.2.2.1, p.2.2.2⟩) (fun _ => rfl) (Opens.struct Try.underlying124 (by kernel_rfl) (OpensL.cons (Opens.int Try.underlying3) (OpensL.cons (Opens.int Try.underlying3) (OpensL.cons (Opens.slice z30 Try.underlying57 (by kernel_rfl) PFnExactFindEntry.open30) (OpensL.one (Opens.slice z208 Try.underlying58 (by kernel_rfl) PFnExactFindEntry.open208))))))
end Go.Proofs.Ytpiaeinfneoioaa
