/- Fractions of package carrefourref02: sums, differences, order, roundings; and package frac's roundings.
   Conditions: as each theorem's head says. -/
import Derived.Test.YtcdaedhphdmnoaaDoorP02t
namespace Go.Proofs.YtcdaedhphdmnoaaDoor.Pure
set_option linter.unusedVariables false
open Go.RowKit Go.Proofs.YtcdaedhphdmnoaaDoor.X Go.Proofs.YtcdaedhphdmnoaaDoorW.PrintWords Go.Proofs.YtcdaedhphdmnoaaDoorW.PrintLast Go.Proofs.YtcdaedhphdmnoaaDoorW.PrintMore

def cmpS (a b c d : Int) : Int := sgn ((nm a b).1 * (nm c d).2) ((nm c d).1 * (nm a b).2)
theorem rCmp_ev {a b c d : Int} (ha : I64 a) (hb : I64 b) (hc : I64 c) (hd : I64 d) : Ev (fun k => carrefourref02_Cmp.f k a b c d) (cmpS a b c d) := by
  obtain ⟨i1, i2, _, _⟩ := nm_spec ha hb
  obtain ⟨i4, i5, _, _⟩ := nm_spec hc hd
  unfold carrefourref02_Cmp.f cmpS
  exact Ev.bind (rNorm_ev ha hb) (Ev.bind (rNorm_ev hc hd) (Ev.bind (rCompare_ev i1 i5 i4 i2) (Ev.now _)))
end Go.Proofs.YtcdaedhphdmnoaaDoor.Pure
