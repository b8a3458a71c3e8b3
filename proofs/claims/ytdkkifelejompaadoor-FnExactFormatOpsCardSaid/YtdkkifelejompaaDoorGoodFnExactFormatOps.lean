import Derived.Test.YtdkkifelejompaaDoorPFnExactFormatOpsx8
import Derived.Test.YtdkkifelejompaaDoorOpenK
namespace Go.Proofs.YtdkkifelejompaaDoor
open Go.RowKit Go.Proofs.YtdkkifelejompaaDoor.PFnExactFormatOps Go.Proofs.YtdkkifelejompaaDoorW.PrintWords Go.Proofs.YtdkkifelejompaaDoorW.PrintLast Go.Proofs.YtdkkifelejompaaDoor.OpenK
def PFnExactFormatOps.g23 : PFnExactFormatOps.S23 → Prop := fun x => (okInt .i64) x.f0 ∧ (okInt .i64) x.f1 ∧ (okInt .i64) x.f2 ∧ (okInt .i64) x.f3 ∧ (okInt .i64) x.f4 ∧ (okInt .i64) x.f5
theorem PFnExactFormatOps.open23 : Opens Tryd.prog k23 23 PFnExactFormatOps.g23 :=
  Opens.iso (fun p => ⟨p.1, p.2.1, p.2.2.1, p.2.2.2.1, p.2.2.2.2.1, p.2.2.2.2.2⟩) (fun _ => rfl) (Opens.struct Tryd.underlying23 (by kernel_rfl) (OpensL.cons (Opens.int Tryd.underlying3) (OpensL.cons (Opens.int Tryd.underlying3) (OpensL.cons (Opens.int Tryd.underlying3) (OpensL.cons (Opens.int Tryd.underlying3) (OpensL.cons (Opens.int Tryd.underlying3) (OpensL.one (Opens.int Tryd.underlying3))))))))
end Go.Proofs.YtdkkifelejompaaDoor
