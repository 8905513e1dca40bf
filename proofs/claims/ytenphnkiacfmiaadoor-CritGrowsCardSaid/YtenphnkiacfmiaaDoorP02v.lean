/- Fractions of package frac: sums, differences, order, roundings; a fraction of one value is one.
   Conditions: as each theorem's head says. -/
import Derived.Test.YtenphnkiacfmiaaDoorP02u
namespace Go.Proofs.YtenphnkiacfmiaaDoor.Pure
set_option linter.unusedVariables false
open Go.RowKit Go.Proofs.YtenphnkiacfmiaaDoor.X Go.Proofs.YtenphnkiacfmiaaDoorW.PrintWords Go.Proofs.YtenphnkiacfmiaaDoorW.PrintLast Go.Proofs.YtenphnkiacfmiaaDoorW.PrintMore
def Sg (s:Bool) (z:Int):Prop:=z≠0→(s=true↔z<0)
theorem Sg.self (z:Int):Sg (decide (z<0)) z:=fun _=>decide_eq_true_iff
theorem Sg.neg {s:Bool} {z:Int} (h:Sg s z):Sg (!s) (-z):=fun hz=>by
 have:=h (by omega)
 cases s
 ·simp at this ⊢;omega
 ·simp at this ⊢;omega
theorem splus_f {A B:Int} {s t:Bool} (hs:Sg s A) (ht:Sg t B) (hA:A.natAbs≤85070591730234615865843651857942052864) (hB:B.natAbs≤85070591730234615865843651857942052864) :
  ∃ u,frac_signed_plus.f s (hw A.natAbs) (lw A.natAbs) t (hw B.natAbs) (lw B.natAbs)=some (u,hw (A+B).natAbs,lw (A+B).natAbs)∧Sg u (A+B):=by
 have mA:M128 A.natAbs:=by unfold M128;omega
 have mB:M128 B.natAbs:=by unfold M128;omega
 unfold frac_signed_plus.f
 by_cases hst:s=t
 ·subst hst
  have e:(A+B).natAbs=A.natAbs+B.natAbs:=by
   by_cases a0:A=0
   ·subst a0;omega
   ·by_cases b0:B=0
    ·subst b0;omega
    ·have h1:=hs a0;have h2:=ht b0
     cases s<;>simp at h1 h2<;>omega
  refine ⟨s,?_,?_⟩
  ·rw [if_pos (by simp),plus_f (by unfold M128;omega),Option.bind_some,e]
  ·intro hz
   by_cases a0:A=0
   ·subst a0;rw [Int.zero_add] at hz ⊢;exact ht hz
   ·by_cases b0:B=0
    ·subst b0;rw [Int.add_zero] at hz ⊢;exact hs hz
    ·have h1:=hs a0;have h2:=ht b0
     cases s<;>simp at h1 h2⊢<;> omega
 ·rw [if_neg (by simpa using hst),cmp_f,Option.bind_some]
  by_cases hc:B.natAbs≤A.natAbs
  ·have hc':cmpN A.natAbs B.natAbs≥0:=by unfold cmpN;split<;>(try split)<;>omega
   have e:(A+B).natAbs=A.natAbs-B.natAbs:=by
    by_cases b0:B=0
    ·subst b0;omega
    ·have h1:=hs (by omega);have h2:=ht b0
     cases s<;>cases t<;>simp at h1 h2 hst<;>omega
   refine ⟨s,?_,?_⟩
   ·rw [if_pos hc',minus_f mA hc,Option.bind_some,e]
   ·intro hz
    have h1:=hs (by omega)
    by_cases b0:B=0
    ·subst b0;rw [Int.add_zero] at hz ⊢;exact h1
    ·have h2:=ht b0
     cases s<;>cases t<;>simp at h1 h2 hst⊢<;> omega
  ·have hc':¬ cmpN A.natAbs B.natAbs≥0:=by unfold cmpN;rw [if_neg (by omega),if_pos (by omega)];decide
   have e:(A+B).natAbs=B.natAbs-A.natAbs:=by
    by_cases a0:A=0
    ·subst a0;omega
    ·have h1:=hs a0;have h2:=ht (by omega)
     cases s<;>cases t<;>simp at h1 h2 hst<;>omega
   refine ⟨t,?_,?_⟩
   ·rw [if_neg hc',minus_f mB (by omega),Option.bind_some,e]
   ·intro hz
    have h2:=ht (by omega)
    by_cases a0:A=0
    ·subst a0;rw [Int.zero_add] at hz ⊢;exact h2
    ·have h1:=hs a0
     cases s<;>cases t<;>simp at h1 h2 hst⊢<;> omega
theorem prod_le {x y:Nat} (hx:x≤9223372036854775808) (hy:y≤9223372036854775808):x*y≤85070591730234615865843651857942052864:=by
 have:=Nat.mul_le_mul hx hy
 omega
theorem fAdd_ev {a b c d:Int} (ha:I64 a) (hb:I64 b) (hc:I64 c) (hd:I64 d):Ev (fun k=>frac_Add.f k a b c d) (addS a b c d):=by
 obtain ⟨i1,i2,i3,_⟩:=nm_spec ha hb
 obtain ⟨i4,i5,i6,_⟩:=nm_spec hc hd
 unfold frac_Add.f frac_added_fn53.f addS
 refine Ev.bind (a:=lowZ ((nm a b).1*(nm c d).2+(nm c d).1*(nm a b).2) ((nm a b).2*(nm c d).2).natAbs) ?_ (Ev.now _)
 refine Ev.bind (norm_ev ha hb) (Ev.bind (norm_ev hc hd) ?_)
 generalize nm a b=p at *
 generalize nm c d=q at *
 have n1:=nab i1;have n2:=nab i2;have n3:=nab i4;have n4:=nab i5
 have s1:(decide (p.1<0) != decide (q.2<0))=decide (p.1*q.2<0):=by rw [sign_pos (show 0<q.2 by omega),neg_mul_pos (by omega)]
 have s2:(decide (q.1<0) != decide (p.2<0))=decide (q.1*p.2<0):=by rw [sign_pos (show 0<p.2 by omega),neg_mul_pos (by omega)]
 obtain ⟨u,hu,gu⟩:=splus_f (A:=p.1*q.2) (B:=q.1*p.2) (Sg.self _) (Sg.self _) (by rw [Int.natAbs_mul];exact prod_le n1 n4) (by rw [Int.natAbs_mul];exact prod_le n3 n2)
 refine Ev.bindc (sized_f i1) (Ev.bindc (sized_f i5) (Ev.bindc (times_f _ _ (by omega) (by omega)) (Ev.bindc (sized_f i4) (Ev.bindc (sized_f i2) (Ev.bindc (times_f _ _ (by omega) (by omega)) ?_)))))
 rw [s1,s2,← Int.natAbs_mul,← Int.natAbs_mul]
 refine Ev.bindc (a:=(decide (q.1*p.2<0),hw (q.1*p.2).natAbs,lw (q.1*p.2).natAbs)) rfl (Ev.bindc hu (Ev.bindc (sized_f i2) (Ev.bindc (sized_f i5) (Ev.bindc (times_f _ _ (by omega) (by omega)) ?_))))
 have hle:=prod_le n1 n4;have hle2:=prod_le n3 n2
 rw [← Int.natAbs_mul] at hle hle2
 have:=reduced_ev (n:=(p.1*q.2+q.1*p.2).natAbs) (d:=p.2.natAbs*q.2.natAbs) (by unfold M128;omega) (prodM n2 n4) (Nat.mul_ne_zero (by omega) (by omega)) u (decide (p.2<0) != decide (q.2<0))
 rw [sign_pos2 (show 0<p.2 by omega) (show 0<q.2 by omega),bne_false',lowF_of (z:=p.1*q.2+q.1*p.2) rfl gu] at this
 rw [sign_pos2 (show 0<p.2 by omega) (show 0<q.2 by omega),Int.natAbs_mul p.2]
 exact Ev.bind this (Ev.now _)
theorem fCmp_ev {a b c d:Int} (ha:I64 a) (hb:I64 b) (hc:I64 c) (hd:I64 d):Ev (fun k=>frac_Cmp.f k a b c d) (cmpS a b c d):=by
 obtain ⟨i1,i2,_,_⟩:=nm_spec ha hb
 obtain ⟨i4,i5,_,_⟩:=nm_spec hc hd
 unfold frac_Cmp.f cmpS
 exact Ev.bind (norm_ev ha hb) (Ev.bind (norm_ev hc hd) (Ev.bind (Compare_ev i1 i5 i4 i2) (Ev.now _)))
theorem lowF_scale {n d k:Nat} (hk:0<k) (s:Bool):lowF (k*n) (k*d) s=lowF n d s:=by
 unfold lowF
 rw [Nat.gcd_mul_left,Nat.mul_div_mul_left _ _ hk,Nat.mul_div_mul_left _ _ hk]
theorem lowZ_scale {z:Int} {d k:Nat} (hk:0<k):lowZ ((k:Int)*z) (k*d)=lowZ z d:=by
 unfold lowZ
 have e:((k:Int)*z).natAbs=k*z.natAbs:=by rw [Int.natAbs_mul,Int.natAbs_natCast]
 have s:decide ((k:Int)*z<0)=decide (z<0):=by
  rw [Int.mul_comm];exact neg_mul_pos (by omega)
 rw [e,s,lowF_scale hk]
theorem lowZ_eq {z z':Int} {d d':Nat} (hd:0<d) (hd':0<d') (h:z*d'=z'*d):lowZ z d=lowZ z' d':=by
 rw [← lowZ_scale (z:=z) (d:=d) hd',← lowZ_scale (z:=z') (d:=d') hd,Nat.mul_comm d' d,Int.mul_comm (d':Int) z,h,Int.mul_comm z' (d:Int)]
end Go.Proofs.YtenphnkiacfmiaaDoor.Pure
