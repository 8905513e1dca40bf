/- Fractions of package carrefourref02: sums, differences, order, roundings; and package frac's roundings.
   Conditions: as each theorem's head says. -/
import Derived.Test.YtenphnkiacfmiaaDoorP02t
namespace Go.Proofs.YtenphnkiacfmiaaDoor.Pure
set_option linter.unusedVariables false
open Go.RowKit Go.Proofs.YtenphnkiacfmiaaDoor.X Go.Proofs.YtenphnkiacfmiaaDoorW.PrintWords Go.Proofs.YtenphnkiacfmiaaDoorW.PrintLast Go.Proofs.YtenphnkiacfmiaaDoorW.PrintMore
theorem neg_mul_pos {a b:Int} (hb:0<b):decide (a*b<0)=decide (a<0):=by
 rw [decide_eq_decide]
 constructor
 ·intro h
  apply Int.not_le.1
  intro h2
  have:=Int.mul_nonneg h2 (show 0≤b by omega)
  omega
 ·intro h;exact Int.mul_neg_of_neg_of_pos h hb
theorem sgn_ge {x y:Int}:sgn x y≥0↔y≤x:=by
 unfold sgn
 by_cases h:x<y
 ·rw [if_pos h];omega
 ·rw [if_neg h];split<;>omega
theorem lows_same {A B:Int} {d:Nat} (h:decide (A<0)=decide (B<0)):lowF (A.natAbs+B.natAbs) d (decide (A<0))=lowZ (A+B) d:=by
 have h':A<0↔B<0:=decide_eq_decide.1 h
 exact lowF_of (by omega) (fun hz=>by rw [decide_eq_true_eq];omega)
theorem lows_left {A B:Int} {d:Nat} (h:¬ decide (A<0)=decide (B<0)) (hle:B.natAbs≤A.natAbs):lowF (A.natAbs-B.natAbs) d (decide (A<0))=lowZ (A+B) d:=by
 have h':¬ (A<0↔B<0):=fun e=>h (decide_eq_decide.2 e)
 exact lowF_of (by omega) (fun hz=>by rw [decide_eq_true_eq];omega)
theorem lows_right {A B:Int} {d:Nat} (h:¬ decide (A<0)=decide (B<0)) (hle:¬ B.natAbs≤A.natAbs):lowF (B.natAbs-A.natAbs) d (decide (B<0))=lowZ (A+B) d:=by
 have h':¬ (A<0↔B<0):=fun e=>h (decide_eq_decide.2 e)
 exact lowF_of (by omega) (fun hz=>by rw [decide_eq_true_eq];omega)
theorem num_of {l:List Int} {x y:Int} (h:Num l x) (e:x=y):Num l y:=e▸h
theorem plus_low {r1 r2 r3:List Int} {X Y D:Nat} (n1:Num r1 X) (n2:Num r2 Y) (n3:Num r3 D) (l1:r1.length≤22) (l2:r2.length≤22) (l3:r3.length≤40) (hD:D≠0) (s:Bool) :
  ∃ u v,Ev (fun k=>carrefourref01_Plus.f k r1 r2) u∧Ev (fun k=>carrefourref02_trim.f k u) v∧Ev (fun k=>carrefourref02_lowest.f k v r3 s) (lowF (X+Y) D s):=by
 obtain ⟨u,hu,nu,lu,_⟩:=plus_ev n1 n2 (by omega) (by omega)
 obtain ⟨v,hv,nv,lv⟩:=trim_ev nu (by omega)
 exact ⟨u,v,hu,hv,lowest_ev (num_of nv (by push_cast;rfl)) n3 (by omega) l3 s hD⟩
theorem minus_low {r1 r2 r3:List Int} {X Y D:Nat} (n1:Num r1 X) (n2:Num r2 Y) (n3:Num r3 D) (l1:r1.length≤22) (l2:r2.length≤22) (l3:r3.length≤40) (hD:D≠0) (hle:Y≤X) (s:Bool) :
  ∃ u v,Ev (fun k=>carrefourref01_Minus.f k r1 r2) u∧Ev (fun k=>carrefourref02_trim.f k u) v∧Ev (fun k=>carrefourref02_lowest.f k v r3 s) (lowF (X-Y) D s):=by
 obtain ⟨u,hu,nu,lu⟩:=minus_ev n1 n2 (by omega) (by omega)
 obtain ⟨v,hv,nv,lv⟩:=trim_ev nu (by omega)
 exact ⟨u,v,hu,hv,lowest_ev (num_of nv (by omega)) n3 (by omega) l3 s hD⟩
theorem rAdd_ev {a b c d:Int} (ha:I64 a) (hb:I64 b) (hc:I64 c) (hd:I64 d):Ev (fun k=>carrefourref02_Add.f k a b c d) (addS a b c d):=by
 obtain ⟨i1,i2,i3,_⟩:=nm_spec ha hb
 obtain ⟨i4,i5,i6,_⟩:=nm_spec hc hd
 unfold carrefourref02_Add.f addS
 refine Ev.bind (rNorm_ev ha hb) (Ev.bind (rNorm_ev hc hd) ?_)
 generalize nm a b=p at *
 generalize nm c d=q at *
 have n1:=nab i1;have n2:=nab i2;have n3:=nab i4;have n4:=nab i5
 have hden:0<p.2*q.2:=Int.mul_pos (by omega) (by omega)
 refine Ev.bindc (few_f i1 i4) ?_
 by_cases hf:fewP p.1 p.2 q.1 q.2
 ·obtain ⟨f1,f2,f3,f4⟩:=hf
  have m1:=i64_mul30 (a:=p.1) (b:=q.2) f1 (by omega)
  have m2:=i64_mul30 (a:=q.1) (b:=p.2) f2 (by omega)
  have m3:=i64_mul30 (a:=p.2) (b:=q.2) (by omega) (by omega)
  have:=rOf_ev (n:=p.1*q.2+q.1*p.2) (d:=p.2*q.2) ⟨by omega,by omega⟩ ⟨by omega,by omega⟩
  rw [ofS_pos hden] at this
  refine Ev.itep (decide_eq_true ⟨f1,f2,f3,f4⟩) ?_
  rw [w64 (x:=p.1*q.2) (by omega) (by omega),w64 (x:=q.1*p.2) (by omega) (by omega),w64 (x:=p.2*q.2) (by omega) (by omega),w64 (x:=p.1*q.2+q.1*p.2) (by omega) (by omega)]
  exact Ev.bind this (Ev.now _)
 ·refine Ev.iten (by simpa using hf) ?_
  obtain ⟨l1,r1,t1,u1,v1,w1⟩:=tt_ev p.1.natAbs q.2.natAbs (by omega) (by omega)
  obtain ⟨l2,r2,t2,u2,v2,w2⟩:=tt_ev q.1.natAbs p.2.natAbs (by omega) (by omega)
  obtain ⟨l3,r3,t3,u3,v3,w3⟩:=tt_ev p.2.natAbs q.2.natAbs (by omega) (by omega)
  refine Ev.bindc (Size_f i1) ?_
  rw [ab_nat,wrap_nat (d:=p.2) (by omega) i2.2,wrap_nat (d:=q.2) (by omega) i5.2]
  refine Ev.bind t1 (Ev.bind u1 (Ev.bindc (Size_f i4) ?_))
  rw [ab_nat]
  refine Ev.bind t2 (Ev.bind u2 (Ev.bind t3 (Ev.bind u3 ?_)))
  have hD:p.2.natAbs*q.2.natAbs≠0:=Nat.mul_ne_zero (by omega) (by omega)
  rw [Int.natAbs_mul p.2 q.2]
  have s1:decide (p.1<0)=decide (p.1*q.2<0):=(neg_mul_pos (by omega)).symm
  have s2:decide (q.1<0)=decide (q.1*p.2<0):=(neg_mul_pos (by omega)).symm
  rw [s1,s2]
  rw [← Int.natAbs_mul] at v1 v2
  generalize p.1*q.2=A at *
  generalize q.1*p.2=B at *
  by_cases hs:decide (A<0)=decide (B<0)
  ·refine Ev.itep (by simpa using hs) ?_
   obtain ⟨u,v,e1,e2,e3⟩:=plus_low v1 v2 v3 (by omega) (by omega) (by omega) hD (decide (A<0))
   rw [lows_same hs] at e3
   exact Ev.bind e1 (Ev.bind e2 (Ev.bind e3 (Ev.now _)))
  ·refine Ev.iten (by simpa using hs) (Ev.bind (order_ev v1 v2 (by omega) (by omega)) ?_)
   by_cases hle:B.natAbs≤A.natAbs
   ·refine Ev.itep (sgn_ge.2 (by omega)) ?_
    obtain ⟨u,v,e1,e2,e3⟩:=minus_low v1 v2 v3 (by omega) (by omega) (by omega) hD hle (decide (A<0))
    rw [lows_left hs hle] at e3
    exact Ev.bind e1 (Ev.bind e2 (Ev.bind e3 (Ev.now _)))
   ·refine Ev.iten (fun h=>hle (by have:=sgn_ge.1 h;omega)) ?_
    obtain ⟨u,v,e1,e2,e3⟩:=minus_low v2 v1 v3 (by omega) (by omega) (by omega) hD (by omega) (decide (B<0))
    rw [lows_right hs hle] at e3
    exact Ev.bind e1 (Ev.bind e2 (Ev.bind e3 (Ev.now _)))
def cmpS (a b c d:Int):Int:=sgn ((nm a b).1*(nm c d).2) ((nm c d).1*(nm a b).2)
theorem rCmp_ev {a b c d:Int} (ha:I64 a) (hb:I64 b) (hc:I64 c) (hd:I64 d):Ev (fun k=>carrefourref02_Cmp.f k a b c d) (cmpS a b c d):=by
 obtain ⟨i1,i2,_,_⟩:=nm_spec ha hb
 obtain ⟨i4,i5,_,_⟩:=nm_spec hc hd
 unfold carrefourref02_Cmp.f cmpS
 exact Ev.bind (rNorm_ev ha hb) (Ev.bind (rNorm_ev hc hd) (Ev.bind (rCompare_ev i1 i5 i4 i2) (Ev.now _)))
end Go.Proofs.YtenphnkiacfmiaaDoor.Pure
