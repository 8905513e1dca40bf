/- How the parameters of the law ReportPlaces read: as the kinds of the walks.
   Conditions: none. -/
import Derived.Test.YtkbffpadkdgbmaaGreatDoorXRead
import Derived.Test.YtkbffpadkdgbmaaGreatDoorX0
import Derived.KernelRfl
namespace Go.Proofs.YtkbffpadkdgbmaaGreatDoor.X
open Go.RowKit Go.Proofs.YtkbffpadkdgbmaaGreatDoorW.PrintWords Go.Proofs.YtkbffpadkdgbmaaGreatDoorW.PrintLast Go.Proofs.YtkbffpadkdgbmaaGreatDoorW.PrintMore
set_option linter.unusedVariables false
set_option maxRecDepth 100000
namespace KReportPlaces
theorem rk9 : Rk Tryz.prog 9 Kd.string (fun s => s.size ≤ maxLen) := Rk.string Tryz.underlying9
theorem rk28 : Rk Tryz.prog 28 (Kd.slice 9 Kd.string) (fun l => l.length ≤ maxLen ∧ ∀ a ∈ l, (fun s => s.size ≤ maxLen) a) := Rk.slice Tryz.underlying28 (by kernel_rfl) rk9
theorem rk22 : Rk Tryz.prog 22 (Kd.slice 28 (Kd.slice 9 Kd.string)) (fun l => l.length ≤ maxLen ∧ ∀ a ∈ l, (fun l => l.length ≤ maxLen ∧ ∀ a ∈ l, (fun s => s.size ≤ maxLen) a) a) := Rk.slice Tryz.underlying22 (by kernel_rfl) rk28
end KReportPlaces
end Go.Proofs.YtkbffpadkdgbmaaGreatDoor.X
