/- The pure law DemandRatio: what any head's volume and flow ratio are, or why there is none.
   Conditions: none beyond the kinds of the arguments. -/
import Derived.Test.YtcdaedhphdmnoaaGreatDoorP09a
namespace Go.Proofs.YtcdaedhphdmnoaaGreatDoor.Pure
set_option linter.unusedVariables false
open Go.RowKit Go.Proofs.YtcdaedhphdmnoaaGreatDoor.X Go.Proofs.YtcdaedhphdmnoaaGreatDoorW.PrintWords Go.Proofs.YtcdaedhphdmnoaaGreatDoorW.PrintLast
theorem DemandRatio (n : ByteArray) (v s u0 u1 a5 a6 a7 a8 a9 a10 p0 p1 : Int) {P0 P5 P6 P7 P8 P9 P10 : Prop} (h0 : P0) (hv : (Lit.int .i64 v).wf = true) (hs : (Lit.int .i64 s).wf = true) (h3 : (Lit.int .i64 u0).wf = true) (h4 : (Lit.int .i64 u1).wf = true) (h5 : P5) (h6 : P6) (h7 : P7) (h8 : P8) (h9 : P9) (h10 : P10) (hp0 : (Lit.int .i64 p0).wf = true) (hp1 : (Lit.int .i64 p1).wf = true) :
    ∃ k, carrefourlaw09_DemandRatio.f k n v s u0 u1 a5 a6 a7 a8 a9 a10 p0 p1 = some true := by
  have hv := i64_of_wf hv; have hs := i64_of_wf hs; have h3 := i64_of_wf h3; have h4 := i64_of_wf h4; have hp0 := i64_of_wf hp0; have hp1 := i64_of_wf hp1
  suffices h : Ev (fun k => carrefourlaw09_DemandRatio.f k n v s u0 u1 a5 a6 a7 a8 a9 a10 p0 p1) true by obtain ⟨K, h⟩ := h; exact ⟨K, h K (Nat.le_refl _)⟩
  unfold carrefourlaw09_DemandRatio.f
  exact Ev.bind (Volume_ev n hv h3 h4 hp0 hp1) (Ev.bind (rVolume_ev n hv h3 h4 hp0 hp1) (Ev.bind (Ratio_ev n hv hs h3 h4 hp0 hp1) (Ev.bind (rRatio_ev n hv hs h3 h4 hp0 hp1) (Ev.itep (by simp) (Ev.itep rfl (Ev.itep (by simp) (Ev.itep rfl (Ev.bind awake09_ev (Ev.now _)))))))))
end Go.Proofs.YtcdaedhphdmnoaaGreatDoor.Pure
