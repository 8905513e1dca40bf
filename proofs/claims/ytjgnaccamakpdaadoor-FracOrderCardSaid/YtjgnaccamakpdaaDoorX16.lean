/- Walks: each '.calls' says that the Go function comes to what its Lean function tells. Conditions: as each theorem's head says. -/
import Derived.Test.YtjgnaccamakpdaaDoorXD
import Derived.Test.YtjgnaccamakpdaaDoorX0
namespace Go.Proofs.YtjgnaccamakpdaaDoor.X
open Go.RowKit Go.Proofs.YtjgnaccamakpdaaDoorW.PrintWords Go.Proofs.YtjgnaccamakpdaaDoorW.PrintLast Go.Proofs.YtjgnaccamakpdaaDoorW.PrintMore
attribute [local go_sem] max2_int min2_int max_two min_two max_three min_three max_four min_four   -- for this text's walks alone
set_option linter.unusedVariables false
set_option maxHeartbeats 8000000
set_option maxRecDepth 100000
set_option linter.unusedSimpArgs false

/-! ### frac_signed_opposite: function 48 -/
theorem frac_signed_opposite.calls (a0_0 : Bool) (a0_1 : Int) (a0_2 : Int) (r1 : Bool) (r2 : Int) (r3 : Int) (w : World) (h : frac_signed_opposite.f a0_0 a0_1 a0_2 = some (r1, r2, r3)) :
    Calls Tryd.prog 48 #[.agg #[.bool a0_0, .int .u64 a0_1, .int .u64 a0_2]] w fun e w' => e = .returned (.agg #[.bool r1, .int .u64 r2, .int .u64 r3]) ∧ Below w.heap.size w w' := by
  have hu50 := Tryd.underlying50
  have hu48 := Tryd.underlying48
  have HB := Aside0.mk (Below.refl w.heap.size w)
  have H : (some (!a0_0, a0_1, a0_2)) = some (r1, r2, r3) := h
  clear h
  simp only [Option.some.injEq, Prod.mk.injEq] at H
  obtain ⟨rfl, rfl, rfl⟩ := H
  go_enter Tryd.func48, Tryd.ntmps48
  go_wp2_with (first | ((with_reducible refine gd 1 rfl ?_); refine bx_ 1 50 #[.bool a0_0, .int .u64 a0_1, .int .u64 a0_2] rfl rfl ?_; intro gb475 hg w2 BK475 hb; have GE475 := bz HB hg; replace HB := bs HB hb; clear hb hg) | ((with_reducible refine gd 2 rfl ?_); refine bx_ 2 50 #[.bool false, .int .u64 0, .int .u64 0] rfl rfl ?_; intro gb476 hg w3 BK476 hb; have GE476 := bz HB hg; have ⟨NB475_476, NB476_475⟩ := nb BK475 hg; replace BK475 := bb BK475 hb; replace HB := bs HB hb; clear hb hg; have hnb4 := nn NB475_476; have hcz5 := k3 BK475; have hcz6 := k3 BK476))
  refine bodyPost_ret (results_cell_row rfl _ _ gb476 50 #[.bool (!a0_0), .int .u64 a0_1, .int .u64 a0_2] (0, 0) _ rfl (br_ BK476) Tryd.underlying50 rfl (by kernel_rfl)) rfl ?_
  exact ⟨ae, bf HB⟩

end Go.Proofs.YtjgnaccamakpdaaDoor.X
