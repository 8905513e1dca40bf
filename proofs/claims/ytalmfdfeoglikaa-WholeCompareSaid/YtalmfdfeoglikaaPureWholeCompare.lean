/- The pure law WholeCompare: comparing any two products of two numbers, by the program as by the document, the other way round and with the factors changed.
   Conditions: none beyond the kinds of the arguments. -/
import Derived.Test.YtalmfdfeoglikaaP01d
namespace Go.Proofs.Ytalmfdfeoglikaa.Pure
open Go.RowKit Go.Proofs.Ytalmfdfeoglikaa.X Go.Proofs.YtalmfdfeoglikaaW.PrintWords Go.Proofs.YtalmfdfeoglikaaW.PrintLast
theorem sgn_flip (x y : Int) : sgn x y = -sgn y x := by unfold sgn; split <;> (try split) <;> (try split) <;> omega
theorem WholeCompare (a b c d : Int) (ha : (Lit.int .i64 a).wf = true) (hb : (Lit.int .i64 b).wf = true) (hc : (Lit.int .i64 c).wf = true) (hd : (Lit.int .i64 d).wf = true) : ∃ k, carrefourlaw01_WholeCompare.f k a b c d = some true := by
  have ha := i64_of_wf ha; have hb := i64_of_wf hb; have hc := i64_of_wf hc; have hd := i64_of_wf hd
  refine Ev.rounds ?_
  have h3 := Compare_ev hb ha hd hc
  rw [Int.mul_comm b a, Int.mul_comm d c] at h3
  have e : sgn (a * b) (c * d) = wrap64 (-sgn (c * d) (a * b)) := by
    rw [sgn_flip, w64]
    · unfold sgn; split <;> (try split) <;> omega
    · unfold sgn; split <;> (try split) <;> omega
  unfold carrefourlaw01_WholeCompare.f
  refine Ev.bind (Compare_ev ha hb hc hd) (Ev.bind (rCompare_ev ha hb hc hd) (Ev.itep rfl (Ev.bind (Compare_ev hc hd ha hb) (Ev.itep e (Ev.bind h3 (Ev.itep rfl (Ev.bind awake_ev (Ev.now _))))))))
end Go.Proofs.Ytalmfdfeoglikaa.Pure
