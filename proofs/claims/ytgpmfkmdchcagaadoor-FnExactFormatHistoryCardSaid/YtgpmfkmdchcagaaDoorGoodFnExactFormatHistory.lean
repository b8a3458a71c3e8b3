import Derived.Test.YtgpmfkmdchcagaaDoorPFnExactFormatHistoryx16
import Derived.Test.YtgpmfkmdchcagaaDoorOpenKT
namespace Go.Proofs.YtgpmfkmdchcagaaDoor
open Go.RowKit Go.Proofs.YtgpmfkmdchcagaaDoor.PFnExactFormatHistory Go.Proofs.YtgpmfkmdchcagaaDoorW.PrintWords Go.Proofs.YtgpmfkmdchcagaaDoorW.PrintLast Go.Proofs.YtgpmfkmdchcagaaDoor.OpenK
def PFnExactFormatHistory.g98 : PFnExactFormatHistory.S98 → Prop := fun x => (okInt .i64) x.f0 ∧ (okInt .i64) x.f1
def PFnExactFormatHistory.g100 : PFnExactFormatHistory.S100 → Prop := fun x => (okInt .i64) x.f0 ∧ (okInt .i64) x.f1
def PFnExactFormatHistory.g47 : PFnExactFormatHistory.S47 → Prop := fun x => (okInt .i64) x.f0 ∧ (okInt .i64) x.f1 ∧ (okRow PFnExactFormatHistory.g98) x.f2 ∧ (okRow PFnExactFormatHistory.g100) x.f3
theorem PFnExactFormatHistory.open98 : Opens Tryd.prog k98 98 PFnExactFormatHistory.g98 :=
  Opens.iso (fun p => ⟨p.1, p.2⟩) (fun _ => rfl) (Opens.struct Tryd.underlying98 (by kernel_rfl) (OpensL.cons (Opens.int Tryd.underlying3) (OpensL.one (Opens.int Tryd.underlying3))))
theorem PFnExactFormatHistory.open100 : Opens Tryd.prog k100 100 PFnExactFormatHistory.g100 :=
  Opens.iso (fun p => ⟨p.1, p.2⟩) (fun _ => rfl) (Opens.struct Tryd.underlying100 (by kernel_rfl) (OpensL.cons (Opens.int Tryd.underlying3) (OpensL.one (Opens.int Tryd.underlying3))))
theorem PFnExactFormatHistory.open47 : Opens Tryd.prog k47 47 PFnExactFormatHistory.g47 :=
  Opens.iso (fun p => ⟨p.1, p.2.1, p.2.2.1, p.2.2.2⟩) (fun _ => rfl) (Opens.struct Tryd.underlying47 (by kernel_rfl) (OpensL.cons (Opens.int Tryd.underlying3) (OpensL.cons (Opens.int Tryd.underlying3) (OpensL.cons (Opens.slice z98 Tryd.underlying44 (by kernel_rfl) PFnExactFormatHistory.open98) (OpensL.one (Opens.slice z100 Tryd.underlying45 (by kernel_rfl) PFnExactFormatHistory.open100))))))
end Go.Proofs.YtgpmfkmdchcagaaDoor
