/- The pure law WholeRoot: roots are what the document tells; a root's square is not above the number, and the next one's is, for every input.
   Conditions: none beyond the kinds of the arguments. -/
import Derived.Test.YtalmfdfeoglikaaP01d
namespace Go.Proofs.Ytalmfdfeoglikaa.Pure
open Go.RowKit Go.Proofs.Ytalmfdfeoglikaa.X Go.Proofs.YtalmfdfeoglikaaW.PrintWords Go.Proofs.YtalmfdfeoglikaaW.PrintLast
theorem WholeRoot : carrefourlaw01_WholeRoot.Pure := by
  intro n hn
  have hn := i64_of_wf hn
  refine Ev.rounds ?_
  unfold carrefourlaw01_WholeRoot.f
  by_cases h : n < 0
  · have h1 : Ev (fun k => whole_Sqrt.f k n) (0, 1) := by unfold whole_Sqrt.f; exact Ev.itep h (Ev.now _)
    have h2 : Ev (fun k => carrefourref01_Sqrt.f k n) (0, 1) := by unfold carrefourref01_Sqrt.f; exact Ev.itep h (Ev.now _)
    exact Ev.bind h1 (Ev.bind h2 (Ev.itep h (Ev.itep rfl (Ev.itep rfl (Ev.bind awake_ev (Ev.now _))))))
  · obtain ⟨r, hr, r0, r1, r2⟩ := Sqrt_ev (n := n) (by omega) hn.2
    obtain ⟨s, hs, s0, s1, s2⟩ := rSqrt_ev (n := n) (by omega) hn.2
    obtain rfl := root_uniq r0 s0 r1 r2 s1 s2
    have hb : r < 4294967296 := sq_lt r0 (by omega) (by have := hn.2; omega)
    have ew : wrap64 (r + 1) = r + 1 := w64 (by omega) (by omega)
    have i1 : I64 1 := ⟨by omega, by omega⟩
    have c1 := Compare_ev (a := r) (b := r) (c := n) (d := 1) ⟨by omega, by omega⟩ ⟨by omega, by omega⟩ hn i1
    have c2 := Compare_ev (a := r + 1) (b := r + 1) (c := n) (d := 1) ⟨by omega, by omega⟩ ⟨by omega, by omega⟩ hn i1
    rw [Int.mul_one] at c1 c2
    refine Ev.bind hr (Ev.bind hs (Ev.iten h (Ev.bindc (same_true _) (Ev.itep rfl (Ev.bind c1 (Ev.itep ?_ ?_))))))
    · unfold sgn; split <;> (try split) <;> omega
    · simp only [ew]
      refine Ev.bind c2 (Ev.itep ?_ (Ev.bind awake_ev (Ev.now _)))
      unfold sgn
      rw [if_neg (by omega), if_pos (by omega)]
      decide
end Go.Proofs.Ytalmfdfeoglikaa.Pure
