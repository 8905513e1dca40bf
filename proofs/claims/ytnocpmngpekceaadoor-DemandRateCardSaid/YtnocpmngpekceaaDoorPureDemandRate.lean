/- The pure law DemandRate: what any fraction is in decimal digits, rounded.
   Conditions: none beyond the kinds of the arguments. -/
import Derived.Test.YtnocpmngpekceaaDoorP09b
namespace Go.Proofs.YtnocpmngpekceaaDoor.Pure
set_option linter.unusedVariables false
open Go.RowKit Go.Proofs.YtnocpmngpekceaaDoor.X Go.Proofs.YtnocpmngpekceaaDoorW.PrintWords Go.Proofs.YtnocpmngpekceaaDoorW.PrintLast
theorem DemandRate (num den places : Int) (hn : (Lit.int .i64 num).wf = true) (hd : (Lit.int .i64 den).wf = true) (hp : (Lit.int .i64 places).wf = true) : ∃ k, carrefourlaw09_DemandRate.f k num den places = some true := by
  have hn := i64_of_wf hn; have hd := i64_of_wf hd
  suffices h : Ev (fun k => carrefourlaw09_DemandRate.f k num den places) true by obtain ⟨K, h⟩ := h; exact ⟨K, h K (Nat.le_refl _)⟩
  unfold carrefourlaw09_DemandRate.f
  exact Ev.bind (Rate_ev hn hd) (Ev.bind (rRate_ev hn hd) (Ev.itep rfl (Ev.itep rfl (Ev.bind awake09_ev (Ev.now _)))))
end Go.Proofs.YtnocpmngpekceaaDoor.Pure
