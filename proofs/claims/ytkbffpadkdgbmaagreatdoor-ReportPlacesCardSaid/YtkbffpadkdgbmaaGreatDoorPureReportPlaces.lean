/- The pure law ReportPlaces. Conditions: as the theorem's head says. -/
import Derived.Test.YtkbffpadkdgbmaaGreatDoorPP2
namespace Go.Proofs.YtkbffpadkdgbmaaGreatDoor.Pure
set_option linter.unusedVariables false
open Go.RowKit Go.Proofs.YtkbffpadkdgbmaaGreatDoor.X Go.Proofs.YtkbffpadkdgbmaaGreatDoorW.PrintWords Go.Proofs.YtkbffpadkdgbmaaGreatDoorW.PrintLast Go.Proofs.YtkbffpadkdgbmaaGreatDoorW.PrintMore
theorem ReportPlaces (l : List (List ByteArray)) {p : Prop} (_ : p) : ∃ k, carrefourlaw29_ReportPlaces.f k l = some true := by
  suffices h : Ev (fun k => carrefourlaw29_ReportPlaces.f k l) true by
    obtain ⟨K, h⟩ := h
    exact ⟨K, h K (Nat.le_refl _)⟩
  unfold carrefourlaw29_ReportPlaces.f
  have hA : Ev (fun k => carrefourlaw29_ReportPlaces.j0 k l true) true := Ev.step (fun k => by rw [carrefourlaw29_ReportPlaces.j0]) (Ev.itep rfl (Ev.bind (awake_ev rfl) (Ev.eq rfl)))
  refine Ev.bind (few_ev l) ?_
  cases h : smallF l with
  | false => exact Ev.iten (by decide) hA
  | true =>
    refine Ev.itep rfl ?_
    obtain ⟨b, hb⟩ := plain_ends h
    refine Ev.bind hb ?_
    cases b with
    | false => exact hA
    | true =>
      have hT : Ev (fun k => report_Table.f k l) (bsL (tx l l.length)) := ⟨0, fun k _ => by show report_Table.f k l = _; rw [report_Table.f, if_pos h]; rfl⟩
      exact Ev.step (fun k => by rw [carrefourlaw29_ReportPlaces.j0]) (Ev.iten (by decide) (Ev.bind hT (pl0 h l.length 0 (by omega))))
end Go.Proofs.YtkbffpadkdgbmaaGreatDoor.Pure
