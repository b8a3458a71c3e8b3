import Derived.Test.YtakpkmlbklahhaaPFnExactFindTransactionx8
import Derived.Test.YtakpkmlbklahhaaOpenKS
namespace Go.Proofs.Ytakpkmlbklahhaa
open Go.RowKit Go.Proofs.Ytakpkmlbklahhaa.PFnExactFindTransaction Go.Proofs.YtakpkmlbklahhaaW.PrintWords Go.Proofs.YtakpkmlbklahhaaW.PrintLast Go.Proofs.Ytakpkmlbklahhaa.OpenK
def PFnExactFindTransaction.g207 : PFnExactFindTransaction.S207 → Prop := fun x => (okInt .i64) x.f0 ∧ (okInt .i64) x.f1 ∧ (okInt .i64) x.f2 ∧ (okInt .i64) x.f3 ∧ (okInt .i64) x.f4
def PFnExactFindTransaction.g189 : PFnExactFindTransaction.S189 → Prop := fun x => (okInt .i64) x.f0 ∧ (okInt .i64) x.f1
def PFnExactFindTransaction.g191 : PFnExactFindTransaction.S191 → Prop := fun x => (okInt .i64) x.f0 ∧ (okInt .i64) x.f1
def PFnExactFindTransaction.g60 : PFnExactFindTransaction.S60 → Prop := fun x => (okInt .i64) x.f0 ∧ (okInt .i64) x.f1 ∧ (okInt .i64) x.f2 ∧ (okInt .i64) x.f3 ∧ (okInt .i64) x.f4 ∧ (okInt .i64) x.f5 ∧ (okInt .i64) x.f6 ∧ (okRow PFnExactFindTransaction.g189) x.f7 ∧ (okRow PFnExactFindTransaction.g191) x.f8
def PFnExactFindTransaction.g160 : PFnExactFindTransaction.S160 → Prop := fun x => (okInt .i64) x.f0 ∧ (okInt .i64) x.f1
def PFnExactFindTransaction.g183 : PFnExactFindTransaction.S183 → Prop := fun x => (okInt .i64) x.f0 ∧ (okInt .i64) x.f1
theorem PFnExactFindTransaction.open207 : Opens Try.prog k207 207 PFnExactFindTransaction.g207 :=
  Opens.iso (fun p => ⟨p.1, p.2.1, p.2.2.1, p.2.2.2.1, p.2.2.2.2⟩) (fun _ => rfl) (Opens.struct Try.underlying207 (by kernel_rfl) (OpensL.cons (Opens.int Try.underlying3) (OpensL.cons (Opens.int Try.underlying3) (OpensL.cons (Opens.int Try.underlying3) (OpensL.cons (Opens.int Try.underlying3) (OpensL.one (Opens.int Try.underlying3)))))))
theorem PFnExactFindTransaction.open189 : Opens Try.prog k189 189 PFnExactFindTransaction.g189 :=
  Opens.iso (fun p => ⟨p.1, p.2⟩) (fun _ => rfl) (Opens.struct Try.underlying189 (by kernel_rfl) (OpensL.cons (Opens.int Try.underlying3) (OpensL.one (Opens.int Try.underlying3))))
theorem PFnExactFindTransaction.open191 : Opens Try.prog k191 191 PFnExactFindTransaction.g191 :=
  Opens.iso (fun p => ⟨p.1, p.2⟩) (fun _ => rfl) (Opens.struct Try.underlying191 (by kernel_rfl) (OpensL.cons (Opens.int Try.underlying3) (OpensL.one (Opens.int Try.underlying3))))
theorem PFnExactFindTransaction.open60 : Opens Try.prog k60 60 PFnExactFindTransaction.g60 :=
  Opens.iso (fun p => ⟨p.1, p.2.1, p.2.2.1, p.2.2.2.1, p.2.2.2.2.1, p.2.2.2.2.2.1, p.2.2.2.2.2.2.1, p.2.2.2.2.2.2.2.1, p.2.2.2.2.2.2.2.2⟩) (fun _ => rfl) (Opens.struct Try.underlying60 (by kernel_rfl) (OpensL.cons (Opens.int Try.underlying3) (OpensL.cons (Opens.int Try.underlying3) (OpensL.cons (Opens.int Try.underlying3) (OpensL.cons (Opens.int Try.underlying3) (OpensL.cons (Opens.int Try.underlying3) (OpensL.cons (Opens.int Try.underlying3) (OpensL.cons (Opens.int Try.underlying3) (OpensL.cons (Opens.slice z189 Try.underlying57 (by kernel_rfl) PFnExactFindTransaction.open189) (OpensL.one (Opens.slice z191 Try.underlying58 (by kernel_rfl) PFnExactFindTransaction.open191)))))))))))
theorem PFnExactFindTransaction.open160 : Opens Try.prog k160 160 PFnExactFindTransaction.g160 :=
  Opens.iso (fun p => ⟨p.1, p.2⟩) (fun _ => rfl) (Opens.struct Try.underlying160 (by kernel_rfl) (OpensL.cons (Opens.int Try.underlying3) (OpensL.one (Opens.int Try.underlying3))))
theorem PFnExactFindTransaction.open183 : Opens Try.prog k183 183 PFnExactFindTransaction.g183 :=
  Opens.iso (fun p => ⟨p.1, p.2⟩) (fun _ => rfl) (Opens.struct Try.underlying183 (by kernel_rfl) (OpensL.cons (Opens.int Try.underlying3) (OpensL.one (Opens.int Try.underlying3))))
end Go.Proofs.Ytakpkmlbklahhaa
