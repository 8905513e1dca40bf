/- Comparing products, and roots: what whole.Compare, whole.Sqrt and the document's come to.
   Conditions: as each theorem's head says. -/
import Derived.Test.YtenphnkiacfmiaaDoorP01b
namespace Go.Proofs.YtenphnkiacfmiaaDoor.Pure
set_option linter.unusedVariables false
open Go.RowKit Go.Proofs.YtenphnkiacfmiaaDoor.X Go.Proofs.YtenphnkiacfmiaaDoorW.PrintWords Go.Proofs.YtenphnkiacfmiaaDoorW.PrintLast Go.Proofs.YtenphnkiacfmiaaDoorW.PrintMore
theorem less_f (a b c d:Int) (hb:0≤b) (hb':b<18446744073709551616) (hd:0≤d) (hd':d<18446744073709551616):whole_double_less.f a b c d=some (decide (a*18446744073709551616+b<c*18446744073709551616+d)):=by
 unfold whole_double_less.f
 by_cases h:a<c
 ·rw [if_pos h,decide_eq_true (by omega)]
 ·rw [if_neg h]
  by_cases h2:a=c
  ·rw [if_pos h2]
   congr 1
   rw [decide_eq_decide]
   omega
  ·rw [if_neg h2,decide_eq_false (by omega)]
theorem Compare_ev {a b c d:Int} (ha:I64 a) (hb:I64 b) (hc:I64 c) (hd:I64 d):Ev (fun k=>whole_Compare.f k a b c d) (sgn (a*b) (c*d)):=by
 have h1:=prod_bd ha hb
 have h2:=prod_bd hc hd
 unfold whole_Compare.f
 refine Ev.bind (whole_sign_ev a b) (Ev.bind (whole_sign_ev c d) (Ev.bindc (product_f ha hb) (Ev.bindc (product_f hc hd) ?_)))
 have hs1:=sg_spec a b
 have hs2:=sg_spec c d
 generalize ab a*ab b=p at *
 generalize ab c*ab d=q at *
 generalize sg a b=s at *
 generalize sg c d=t at *
 generalize a*b=x at *
 generalize c*d=y at *
 by_cases hst:s=t
 ·refine Ev.itep hst ?_
  by_cases hpq:p=q
  ·subst hpq
   refine Ev.itep (by simp) ?_
   have:sgn x y=0:=by unfold sgn;rw [if_neg (by omega),if_neg (by omega)]
   rw [this];exact Ev.now _
  ·refine Ev.iten (by
    intro h
    simp only [Bool.and_eq_true,beq_iff_eq] at h
    omega) ?_
   refine Ev.bindc (less_f _ _ _ _ (by omega) (by omega) (by omega) (by omega)) ?_
   have e1:p / 18446744073709551616*18446744073709551616+p % 18446744073709551616=p:=by omega
   have e2:q / 18446744073709551616*18446744073709551616+q % 18446744073709551616=q:=by omega
   rw [e1,e2]
   by_cases hl:p<q
   ·refine Ev.itep (by simpa using hl) ?_
    have:sgn x y=wrap64 (-s):=by
     rw [w64 (by omega) (by omega)]
     unfold sgn
     split
     ·omega
     ·split<;>omega
    rw [this];exact Ev.now _
   ·refine Ev.iten (by simpa using hl) ?_
    have:sgn x y=s:=by
     unfold sgn
     split
     ·omega
     ·split<;>omega
    rw [this];exact Ev.now _
 ·refine Ev.iten hst ?_
  have:sgn x y=mx (-1) (mn 1 (wrap64 (s-t))):=by
   rw [w64 (by omega) (by omega)]
   unfold sgn mx mn
   split
   ·split
    ·split<;>omega
    ·split<;>omega
   ·split
    ·split
     ·split<;>omega
     ·split<;>omega
    ·omega
  rw [this];exact Ev.now _
theorem rsign_ev (a b:Int):Ev (fun k=>carrefourref01_sign.f k a b) (sg a b):=by
 unfold carrefourref01_sign.f sg
 by_cases h:a=0
 ·rw [if_pos (.inl h)]
  simp only [if_pos h]
  exact Ev.step (f:=fun _=>some 0) (fun k=>by simp only [carrefourref01_sign.j0];rw [if_pos trivial]) (Ev.now _)
 ·simp only [if_neg h]
  by_cases h2:b=0
  ·rw [if_pos (.inr h2)]
   exact Ev.step (f:=fun _=>some 0) (fun k=>by simp only [carrefourref01_sign.j0];rw [if_pos (by simpa using h2)]) (Ev.now _)
  ·rw [if_neg (by omega)]
   refine Ev.step (f:=fun _=>some (if decide (a<0)=decide (b<0) then 1 else -1)) (fun k=>?_) (Ev.now _)
   simp only [carrefourref01_sign.j0]
   rw [if_neg (by simpa using h2)]
   by_cases h3:decide (a<0)=decide (b<0)
   ·rw [if_pos h3,if_neg (by simp [h3])]
   ·rw [if_neg h3,if_pos (by simpa using h3)]
theorem small_mul {a b:Int} (ha:ab a<2147483648) (hb:ab b<2147483648):I64 (a*b):=by
 have h:0≤ab a:=by unfold ab;split<;>omega
 have h':0≤ab b:=by unfold ab;split<;>omega
 have:ab a*ab b≤2147483647*2147483647:=Int.mul_le_mul (by omega) (by omega) h' (by omega)
 have hp:0≤ab a*ab b:=Int.mul_nonneg h h'
 rcases sg_spec a b with h|h|h
 ·rw [h.2.1];exact ⟨by omega,by omega⟩
 ·rw [h.2.1];exact ⟨by omega,by omega⟩
 ·rw [h.2.1];exact ⟨by omega,by omega⟩
theorem rCompare_ev {a b c d:Int} (ha:I64 a) (hb:I64 b) (hc:I64 c) (hd:I64 d):Ev (fun k=>carrefourref01_Compare.f k a b c d) (sgn (a*b) (c*d)):=by
 have hs1:=sg_spec a b
 have hs2:=sg_spec c d
 unfold carrefourref01_Compare.f
 refine Ev.bind (rsign_ev a b) (Ev.bind (rsign_ev c d) ?_)
 by_cases h1:sg a b<sg c d
 ·refine Ev.itep h1 ?_
  have:sgn (a*b) (c*d)=-1:=by unfold sgn;rw [if_pos (by omega)]
  rw [this];exact Ev.now _
 ·refine Ev.iten h1 ?_
  by_cases h2:sg a b>sg c d
  ·refine Ev.itep h2 ?_
   have:sgn (a*b) (c*d)=1:=by unfold sgn;rw [if_neg (by omega),if_pos (by omega)]
   rw [this];exact Ev.now _
  ·refine Ev.iten h2 ?_
   have big:∀ e:Bool,e=false→Ev (fun k=>carrefourref01_Compare.j0 k a b c d (sg a b) e) (sgn (a*b) (c*d)):=by
    rintro e rfl
    obtain ⟨t,ht,nt,lt⟩:=times_ev (ab a) (ab b) (ab_u ha) (ab_u hb)
    obtain ⟨u,hu,nu,lu⟩:=times_ev (ab c) (ab d) (ab_u hc) (ab_u hd)
    have ho:=order_ev nt nu (by omega) (by omega)
    refine Ev.step (f:=fun k=>((carrefourref01_Size.f a).bind fun t323=>((carrefourref01_Size.f b).bind fun t324=>((carrefourref01_Times.f k t323 t324).bind fun t325=>((carrefourref01_Size.f c).bind fun t328=>((carrefourref01_Size.f d).bind fun t329=>((carrefourref01_Times.f k t328 t329).bind fun t330=>((carrefourref01_Order.f k t325 t330).bind fun t333=>(some (wrap64 (sg a b*t333))))))))))) (fun k=>?_) ?_
    ·simp only [carrefourref01_Compare.j0]
     rw [if_neg (by decide)]
    ·refine Ev.bindc (Size_f ha) (Ev.bindc (Size_f hb) (Ev.bind ht (Ev.bindc (Size_f hc) (Ev.bindc (Size_f hd) (Ev.bind hu (Ev.bind ho ?_))))))
     have:sgn (a*b) (c*d)=wrap64 (sg a b*sgn (ab a*ab b) (ab c*ab d)):=by
      have hst:sg a b=sg c d:=by omega
      generalize ab a*ab b=p at *
      generalize ab c*ab d=q at *
      generalize a*b=x at *
      generalize c*d=y at *
      rcases hs1 with h|h|h
      ·rw [h.1,Int.one_mul,w64 (by unfold sgn;split<;>(try split)<;>omega) (by unfold sgn;split<;>(try split)<;>omega)]
       have e1:x=p:=h.2.1
       have e2:y=q:=by omega
       rw [e1,e2]
      ·rw [h.1,Int.neg_mul,Int.one_mul,w64 (by unfold sgn;split<;>(try split)<;>omega) (by unfold sgn;split<;>(try split)<;>omega)]
       have e1:x=-p:=h.2.1
       have e2:y=-q:=by omega
       rw [e1,e2]
       unfold sgn
       split<;>split<;>(try split)<;>(try split)<;>omega
      ·rw [h.1,Int.zero_mul]
       have e1:x=0:=h.2.1
       have e2:y=0:=by omega
       rw [e1,e2,w64 (by omega) (by omega)];unfold sgn;simp
     rw [this];exact Ev.now _
   refine Ev.bindc (Size_f ha) ?_
   by_cases s1:ab a<2147483648
   ·refine Ev.itep s1 (Ev.bindc (Size_f hb) ?_)
    by_cases s2:ab b<2147483648
    ·refine Ev.itep s2 (Ev.bindc (Size_f hc) ?_)
     by_cases s3:ab c<2147483648
     ·refine Ev.itep s3 (Ev.bindc (Size_f hd) ?_)
      by_cases s4:ab d<2147483648
      ·have m1:=small_mul s1 s2
       have m2:=small_mul s3 s4
       rw [decide_eq_true s4]
       refine Ev.step (f:=fun _=>some (sgn (a*b) (c*d))) (fun k=>?_) (Ev.now _)
       simp only [carrefourref01_Compare.j0]
       rw [if_pos trivial,w64 m1.1 m1.2,w64 m2.1 m2.2]
       unfold sgn
       by_cases g1:a*b<c*d
       ·rw [if_pos g1,if_pos g1]
       ·rw [if_neg g1,if_neg g1]
        by_cases g2:a*b>c*d
        ·rw [if_pos g2,if_pos g2]
        ·rw [if_neg g2,if_neg g2]
      ·exact big _ (decide_eq_false s4)
     ·exact Ev.iten s3 (big _ rfl)
    ·exact Ev.iten s2 (big _ rfl)
   ·exact Ev.iten s1 (big _ rfl)
end Go.Proofs.YtenphnkiacfmiaaDoor.Pure
