/- The pure law ReportTable. Conditions: as the theorem's head says. -/
import Derived.Test.YtkbffpadkdgbmaaGreatDoorPR2
namespace Go.Proofs.YtkbffpadkdgbmaaGreatDoor.Pure
set_option linter.unusedVariables false
open Go.RowKit Go.Proofs.YtkbffpadkdgbmaaGreatDoor.X Go.Proofs.YtkbffpadkdgbmaaGreatDoorW.PrintWords Go.Proofs.YtkbffpadkdgbmaaGreatDoorW.PrintLast Go.Proofs.YtkbffpadkdgbmaaGreatDoorW.PrintMore
theorem ReportTable (l : List (List ByteArray)) (a1 : Int) {p q : Prop} (_ : p) (_ : q) : ∃ k, carrefourlaw29_ReportTable.f k l a1 = some true := by
  suffices h : Ev (fun k => carrefourlaw29_ReportTable.f k l a1) true by
    obtain ⟨K, h⟩ := h
    exact ⟨K, h K (Nat.le_refl _)⟩
  unfold carrefourlaw29_ReportTable.f
  refine Ev.bind (few_ev l) ?_
  cases h : smallF l with
  | false => exact Ev.iten (by decide) (Ev.eq rfl)
  | true =>
    have hT : Ev (fun k => report_Table.f k l) (bsL (tx l l.length)) := ⟨0, fun k _ => by show report_Table.f k l = _; rw [report_Table.f, if_pos h]; rfl⟩
    have hW : Ev (fun k => report_Width.f k l a1) (if a1 < 0 then 0 else rdOf 0 (widths l) a1) := ⟨0, fun k _ => by show report_Width.f k l a1 = _; rw [report_Width.f, if_pos h]⟩
    exact Ev.itep rfl (Ev.bind hT (Ev.bind (tab_ev h) (Ev.itep rfl (Ev.bind hW (Ev.bind (wid_ev (small_says h).1 a1) (Ev.itep rfl (Ev.bind (awake_ev rfl) (Ev.eq rfl))))))))
end Go.Proofs.YtkbffpadkdgbmaaGreatDoor.Pure
