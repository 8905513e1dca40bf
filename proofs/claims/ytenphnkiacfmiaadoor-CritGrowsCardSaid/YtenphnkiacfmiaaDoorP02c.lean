/- Fractions: what the functions of package frac come to.
   Conditions: as each theorem's head says. -/
import Derived.Test.YtenphnkiacfmiaaDoorP02b
namespace Go.Proofs.YtenphnkiacfmiaaDoor.Pure
set_option linter.unusedVariables false
open Go.RowKit Go.Proofs.YtenphnkiacfmiaaDoor.X Go.Proofs.YtenphnkiacfmiaaDoorW.PrintWords Go.Proofs.YtenphnkiacfmiaaDoorW.PrintLast Go.Proofs.YtenphnkiacfmiaaDoorW.PrintMore
def rt (a b:Int):Prop:=1≤b∧gg a b=1
instance (a b:Int):Decidable (rt a b):=by unfold rt;exact inferInstance
def nm (a b:Int):Int × Int:=if rt a b then (a,b) else (0,1)
theorem nm_spec {a b:Int} (ha:I64 a) (hb:I64 b):I64 (nm a b).1∧I64 (nm a b).2∧1≤(nm a b).2∧rt (nm a b).1 (nm a b).2:=by
 unfold nm
 by_cases h:rt a b
 ·rw [if_pos h];exact ⟨ha,hb,h.1,h⟩
 ·rw [if_neg h];exact ⟨by unfold I64;omega,by unfold I64;omega,by omega,by decide⟩
theorem nm_of {a b:Int} (h:rt a b):nm a b=(a,b):=if_pos h
def lowZ (z:Int) (d:Nat):Int × Int × Int:=lowF z.natAbs d (decide (z<0))
theorem lowF_zero (d:Nat) (s t:Bool):lowF 0 d s=lowF 0 d t:=by
 unfold lowF
 rw [Nat.zero_div]
 by_cases c:d / Nat.gcd 0 d<9223372036854775808
 ·cases s<;>cases t<;>simp
 ·cases s<;>cases t<;>simp
theorem lowF_of {n d:Nat} {s:Bool} {z:Int} (hn:n=z.natAbs) (hs:z≠0→(s=true↔z<0)):lowF n d s=lowZ z d:=by
 unfold lowZ
 subst hn
 by_cases h:z=0
 ·subst h;exact lowF_zero _ _ _
 ·have:s=decide (z<0):=by rw [Bool.eq_iff_iff,decide_eq_true_eq];exact hs h
  rw [this]
theorem lowZ_fits {z:Int} {d:Nat} (hd:d≠0) (h:(lowZ z d).2.2=0):I64 (lowZ z d).1∧I64 (lowZ z d).2.1∧rt (lowZ z d).1 (lowZ z d).2.1∧(lowZ z d).1*d=z*(lowZ z d).2.1:=by
 unfold lowZ lowF at h ⊢
 have hg:0<Nat.gcd z.natAbs d:=Nat.gcd_pos_of_pos_right _ (by omega)
 obtain ⟨a,ha⟩:=Nat.gcd_dvd_left z.natAbs d
 obtain ⟨b,hb⟩:=Nat.gcd_dvd_right z.natAbs d
 have ea:z.natAbs / Nat.gcd z.natAbs d=a:=by
  conv=>lhs;lhs;rw [ha]
  exact Nat.mul_div_cancel_left a hg
 have eb:d / Nat.gcd z.natAbs d=b:=by
  conv=>lhs;lhs;rw [hb]
  exact Nat.mul_div_cancel_left b hg
 have hcop:Nat.gcd a b=1:=by
  have:=Nat.coprime_div_gcd_div_gcd hg
  rw [ea,eb] at this
  exact this
 rw [ea,eb] at h ⊢
 have hb0:b≠0:=by rintro rfl;omega
 by_cases c:a<(if decide (z<0)=true then 9223372036854775809 else 9223372036854775808)∧b<9223372036854775808
 ·rw [if_pos c]
  have hc1:=c.1
  have hgr:gg (if decide (z<0)=true then -(a:Int) else (a:Int)) (b:Int)=1:=by
   unfold gg
   have:(if decide (z<0)=true then -(a:Int) else (a:Int)).natAbs=a:=by split<;>omega
   rw [this,Int.natAbs_natCast,hcop]
  have hz:z=(if decide (z<0)=true then -(z.natAbs:Int) else (z.natAbs:Int)):=by
   by_cases hs:z<0
   ·rw [if_pos (decide_eq_true hs)];omega
   ·rw [if_neg (by rw [decide_eq_false hs];exact Bool.false_ne_true)];omega
  have hprod:(a:Int)*d=(z.natAbs:Int)*b:=by
   have:a*d=z.natAbs*b:=by
    conv=>lhs;rw [hb]
    conv=>rhs;rw [ha]
    rw [Nat.mul_comm (Nat.gcd z.natAbs d) a,Nat.mul_assoc]
   exact_mod_cast this
  have hc2:=c.2
  refine ⟨?_,(show I64 (b:Int) from ⟨by omega,by omega⟩),⟨(show (1:Int)≤b by omega),hgr⟩,?_⟩
  ·show I64 (if decide (z<0)=true then -(a:Int) else (a:Int))
   by_cases hs:decide (z<0)=true
   ·rw [if_pos hs] at hc1 ⊢;exact ⟨by omega,by omega⟩
   ·rw [if_neg hs] at hc1 ⊢;exact ⟨by omega,by omega⟩
  ·show (if decide (z<0)=true then -(a:Int) else (a:Int))*d=z*b
   conv=>rhs;rw [hz]
   by_cases hs:decide (z<0)=true
   ·rw [if_pos hs,if_pos hs,Int.neg_mul,Int.neg_mul,hprod]
   ·rw [if_neg hs,if_neg hs,hprod]
 ·rw [if_neg c] at h
  exact absurd h (by decide)
theorem lowZ_self {a b:Int} (ha:I64 a) (hb:I64 b) (h:rt a b):lowZ a b.natAbs=(a,b,0):=by
 obtain ⟨h1,h2⟩:=h
 unfold gg at h2
 unfold I64 at ha hb
 unfold lowZ lowF
 rw [h2,Nat.div_one,Nat.div_one]
 have e2:((b.natAbs:Nat):Int)=b:=by omega
 by_cases hs:a<0
 ·have c:a.natAbs<(if decide (a<0)=true then 9223372036854775809 else 9223372036854775808)∧b.natAbs<9223372036854775808:=⟨by rw [if_pos (decide_eq_true hs)];omega,by omega⟩
  have e1:-((a.natAbs:Nat):Int)=a:=by omega
  rw [if_pos c,if_pos (decide_eq_true hs),e1,e2]
 ·have c:a.natAbs<(if decide (a<0)=true then 9223372036854775809 else 9223372036854775808)∧b.natAbs<9223372036854775808:=⟨by split<;>omega,by omega⟩
  have e1:((a.natAbs:Nat):Int)=a:=by omega
  rw [if_pos c,if_neg (by rw [decide_eq_false hs];exact Bool.false_ne_true),e1,e2]
theorem sign_pos {a:Bool} {b:Int} (h:0<b):(a != decide (b<0))=a:=by rw [decide_eq_false (by omega)];cases a<;>rfl
theorem sign_pos2 {p q:Int} (hp:0<p) (hq:0<q):(decide (p<0) != decide (q<0))=false:=by rw [decide_eq_false (show ¬ p<0 by omega),decide_eq_false (show ¬ q<0 by omega)];rfl
theorem bne_false' (a:Bool):(a != false)=a:=by cases a<;>rfl
theorem sign_div {a b:Int} (hb:b≠0) (h:(if b<0 then -a else a)≠0):((decide (a<0) != decide (b<0))=true↔(if b<0 then -a else a)<0):=by
 by_cases s2:b<0
 ·rw [if_pos s2] at h ⊢
  by_cases s1:a<0
  ·rw [decide_eq_true s1,decide_eq_true s2];simp;omega
  ·rw [decide_eq_false s1,decide_eq_true s2];simp;omega
 ·rw [if_neg s2] at h ⊢
  by_cases s1:a<0
  ·rw [decide_eq_true s1,decide_eq_false s2];simp;omega
  ·rw [decide_eq_false s1,decide_eq_false s2];simp;omega
def ofS (n d:Int):Int × Int × Int:=if d=0 then (0,0,3) else lowZ (if d<0 then -n else n) d.natAbs
def addS (a b c d:Int):Int × Int × Int:=lowZ ((nm a b).1*(nm c d).2+(nm c d).1*(nm a b).2) ((nm a b).2*(nm c d).2).natAbs
theorem gcd_one_bd {a b:Int} (hb:I64 b) (h:1≤b):(gg a b:Int)<9223372036854775808:=by
 obtain ⟨_,h2⟩:=hb
 have:gg a b≤b.natAbs:=Nat.gcd_le_right _ (by omega)
 omega
theorem Right_ev {a b:Int} (ha:I64 a) (hb:I64 b):Ev (fun k=>frac_Right.f k a b) (decide (rt a b)):=by
 unfold frac_Right.f
 refine Ev.bind (Gcd_ev ha hb) ?_
 by_cases h:b≥1
 ·refine Ev.itep h ?_
  have:=gcd_one_bd (a:=a) hb h
  rw [fit_in ⟨by omega,this⟩]
  refine Ev.itep rfl ?_
  have e:(((gg a b:Nat):Int)==1)=decide (rt a b):=by
   rw [Bool.eq_iff_iff,decide_eq_true_eq,beq_iff_eq]
   unfold rt
   omega
  show Ev (fun _=>some (((gg a b:Nat):Int)==1)) (decide (rt a b))
  rw [e]
  exact Ev.now _
 ·rw [decide_eq_false (fun x:rt a b=>h x.1)]
  exact Ev.iten h (Ev.now _)
theorem norm_ev {a b:Int} (ha:I64 a) (hb:I64 b):Ev (fun k=>frac_norm.f k a b) (nm a b):=by
 unfold frac_norm.f nm
 refine Ev.bind (Right_ev ha hb) ?_
 by_cases h:rt a b
 ·rw [if_pos h];exact Ev.itep (by simpa using h) (Ev.now _)
 ·rw [if_neg h];exact Ev.iten (by simpa using h) (Ev.now _)
theorem sized_f {a:Int} (ha:I64 a):frac_sized.f a=some (decide (a<0),hw a.natAbs,lw a.natAbs):=by
 unfold I64 at ha
 unfold frac_sized.f
 rw [hw_small (by omega),lw_small (by omega)]
 by_cases h:a<0
 ·rw [if_pos h,decide_eq_true h]
  have:IntKind.u64.wrap (-(IntKind.u64.wrap a))=(a.natAbs:Int):=by
   rw [IntKind.wrap_u64,IntKind.wrap_u64];omega
  rw [this]
 ·rw [if_neg h,decide_eq_false h,u64w (by omega) (by omega)]
  have:a=(a.natAbs:Int):=by omega
  rw [← this]
theorem times_f {x y:Nat} (s t:Bool) (hx:x<18446744073709551616) (hy:y<18446744073709551616):frac_signed_times.f s (hw x) (lw x) t (hw y) (lw y)=some ((s != t),hw (x*y),lw (x*y)):=by
 unfold frac_signed_times.f frac_multiply.f
 rw [lw_small hx,lw_small hy,mul64 ⟨by omega,by omega⟩ ⟨by omega,by omega⟩]
 simp only [Option.bind_some]
 unfold hw lw
 have e:(x:Int)*(y:Int)=((x*y:Nat):Int):=by push_cast;rfl
 rw [e]
 rfl
theorem prodM {x y:Nat} (hx:x≤9223372036854775808) (hy:y≤9223372036854775808):M128 (x*y):=by
 have:=Nat.mul_le_mul hx hy
 unfold M128
 omega
end Go.Proofs.YtenphnkiacfmiaaDoor.Pure
