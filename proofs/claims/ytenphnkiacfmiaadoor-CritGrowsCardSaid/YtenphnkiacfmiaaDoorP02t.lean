/- Fractions of package carrefourref02: what its functions come to.
   Conditions: as each theorem's head says. -/
import Derived.Test.YtenphnkiacfmiaaDoorP02s
namespace Go.Proofs.YtenphnkiacfmiaaDoor.Pure
set_option linter.unusedVariables false
open Go.RowKit Go.Proofs.YtenphnkiacfmiaaDoor.X Go.Proofs.YtenphnkiacfmiaaDoorW.PrintWords Go.Proofs.YtenphnkiacfmiaaDoorW.PrintLast Go.Proofs.YtenphnkiacfmiaaDoorW.PrintMore
theorem r2gcd_ev (d:Nat):∀ a b:Nat,b≤d→Ev (fun k=>carrefourref02_gcd.l0 k (a:Int) (b:Int)) ((Nat.gcd a b:Nat):Int):=by
 induction d with
 | zero =>
  intro a b hb
  obtain rfl:b=0:=by omega
  refine Ev.step (f:=fun _=>some ((Nat.gcd a 0:Nat):Int)) (fun k=>?_) (Ev.now _)
  simp only [carrefourref02_gcd.l0]
  rw [if_pos (show ((0:Nat):Int)=0 from rfl),Nat.gcd_zero_right]
 | succ d ih =>
  intro a b hb
  by_cases h:b=0
  ·subst h
   refine Ev.step (f:=fun _=>some ((Nat.gcd a 0:Nat):Int)) (fun k=>?_) (Ev.now _)
   simp only [carrefourref02_gcd.l0]
   rw [if_pos (show ((0:Nat):Int)=0 from rfl),Nat.gcd_zero_right]
  ·have hlt:a % b<b:=Nat.mod_lt _ (by omega)
   have hih:=ih b (a % b) (by omega)
   have e:Int.tmod (a:Int) (b:Int)=((a % b:Nat):Int):=by rw [Int.tmod_eq_emod_of_nonneg (by omega)];push_cast;rfl
   have g:Nat.gcd b (a % b)=Nat.gcd a b:=by rw [Nat.gcd_comm a b,Nat.gcd_rec b a,Nat.gcd_comm]
   rw [g,← e] at hih
   refine Ev.step (fun k=>?_) hih
   simp only [carrefourref02_gcd.l0]
   rw [if_neg (by omega)]
theorem r2gcd_f (a b:Nat):Ev (fun k=>carrefourref02_gcd.f k (a:Int) (b:Int)) ((Nat.gcd a b:Nat):Int):=r2gcd_ev b a b (Nat.le_refl _)
theorem rRight_ev {a b:Int} (ha:I64 a) (hb:I64 b):Ev (fun k=>carrefourref02_Right.f k a b) (decide (rt a b)):=by
 unfold carrefourref02_Right.f
 by_cases h:b≥1
 ·refine Ev.itep h (Ev.bindc (Size_f ha) ?_)
  have hb':IntKind.u64.wrap b=(b.natAbs:Int):=by unfold I64 at hb;rw [u64w (by omega) (by omega)];omega
  rw [ab_nat,hb']
  refine Ev.bind (r2gcd_f a.natAbs b.natAbs) ?_
  have e:(((Nat.gcd a.natAbs b.natAbs:Nat):Int)==1)=decide (rt a b):=by
   rw [Bool.eq_iff_iff,decide_eq_true_eq,beq_iff_eq]
   unfold rt gg
   omega
  rw [e]
  exact Ev.now _
 ·rw [decide_eq_false (fun x:rt a b=>h x.1)]
  exact Ev.iten h (Ev.now _)
theorem rNorm_ev {a b:Int} (ha:I64 a) (hb:I64 b):Ev (fun k=>carrefourref02_Norm.f k a b) (nm a b):=by
 unfold carrefourref02_Norm.f nm
 refine Ev.bind (rRight_ev ha hb) ?_
 by_cases h:rt a b
 ·rw [if_pos h];exact Ev.itep (by simpa using h) (Ev.now _)
 ·rw [if_neg h];exact Ev.iten (by simpa using h) (Ev.now _)
def fewP (a b c d:Int):Prop:=a.natAbs<1073741824∧c.natAbs<1073741824∧b<1073741824∧d<1073741824
instance (a b c d:Int):Decidable (fewP a b c d):=by unfold fewP;exact inferInstance
theorem few_f {a b c d:Int} (ha:I64 a) (hc:I64 c):carrefourref02_few.f a b c d=some (decide (fewP a b c d)):=by
 have key:∀ x:Bool,(x=true↔(a.natAbs<1073741824∧c.natAbs<1073741824∧b<1073741824∧d<1073741824))→some x=some (decide (fewP a b c d)):=by
  intro x hx
  congr 1
  rw [Bool.eq_iff_iff,decide_eq_true_eq]
  exact hx
 unfold carrefourref02_few.f
 rw [Size_f ha,Size_f hc]
 have no:¬ (a.natAbs<1073741824∧c.natAbs<1073741824∧b<1073741824∧d<1073741824)→some false=some (decide (fewP a b c d)):=fun h=>key _ ⟨fun e=>absurd e Bool.false_ne_true,fun e=>absurd e h⟩
 generalize some (decide (fewP a b c d))=R at *
 rw [ab_nat,ab_nat,Option.bind_some,Option.bind_some]
 by_cases h1:(a.natAbs:Int)<1073741824
 ·rw [if_pos h1]
  by_cases h2:(c.natAbs:Int)<1073741824
  ·rw [if_pos h2]
   by_cases h3:b<1073741824
   ·rw [if_pos h3]
    apply key
    rw [decide_eq_true_eq]
    exact ⟨fun h=>⟨by omega,by omega,h3,h⟩,fun h=>h.2.2.2⟩
   ·rw [if_neg h3];exact no (fun h=>h3 h.2.2.1)
  ·rw [if_neg h2];exact no (fun h=>h2 (by have:=h.2.1;omega))
 ·rw [if_neg h1];exact no (fun h=>h1 (by have:=h.1;omega))
theorem mul_lt {x y B:Nat} (hx:x<B) (hy:y<B):x*y<B*B:=Nat.mul_lt_mul'' hx hy
theorem rOf_ev {n d:Int} (hn:I64 n) (hd:I64 d):Ev (fun k=>carrefourref02_Of.f k n d) (ofS n d):=by
 have n1:=nab hn
 have n2:=nab hd
 unfold carrefourref02_Of.f ofS
 by_cases h:d=0
 ·rw [if_pos h];exact Ev.itep h (Ev.now _)
 ·rw [if_neg h]
  refine Ev.iten h (Ev.bindc (Size_f hn) (Ev.bindc (Size_f hd) ?_))
  rw [ab_nat,ab_nat]
  refine Ev.bind (r2gcd_f n.natAbs d.natAbs) ?_
  have hg:0<Nat.gcd n.natAbs d.natAbs:=Nat.gcd_pos_of_pos_right _ (by omega)
  have q:∀ x:Nat,x≤9223372036854775808→IntKind.u64.wrap (Int.tdiv (x:Int) ((Nat.gcd n.natAbs d.natAbs:Nat):Int))=((x / Nat.gcd n.natAbs d.natAbs:Nat):Int)∧x / Nat.gcd n.natAbs d.natAbs<18446744073709551616:=by
   intro x hx
   have hle:x / Nat.gcd n.natAbs d.natAbs≤x:=Nat.div_le_self _ _
   have e2:(x:Int) / ((Nat.gcd n.natAbs d.natAbs:Nat):Int)=((x / Nat.gcd n.natAbs d.natAbs:Nat):Int):=by push_cast;rfl
   rw [Int.tdiv_eq_ediv_of_nonneg (by omega),e2]
   clear e2
   generalize x / Nat.gcd n.natAbs d.natAbs=y at *
   exact ⟨u64w (by omega) (by omega),by omega⟩
  refine Ev.iten (by omega) ?_
  rw [(q _ n1).1,(q _ n2).1]
  have m:=fun s=>made_ev (n.natAbs / Nat.gcd n.natAbs d.natAbs) (d.natAbs / Nat.gcd n.natAbs d.natAbs) (q _ n1).2 (q _ n2).2 s
  by_cases h0:n=0
  ·have e:lowF n.natAbs d.natAbs false=lowZ (if d<0 then -n else n) d.natAbs:=lowF_of (by subst h0;split<;>rfl) (by intro hz;subst h0;exfalso;revert hz;split<;>simp)
   rw [← e]
   exact Ev.itep h0 (Ev.bind (m false) (Ev.now _))
  ·have e:lowF n.natAbs d.natAbs (decide (n<0) != decide (d<0))=lowZ (if d<0 then -n else n) d.natAbs:=lowF_of (by split<;>omega) (sign_div h)
   rw [← e]
   exact Ev.iten h0 (Ev.bind (m _) (Ev.now _))
theorem ofS_pos {n d:Int} (h:0<d):ofS n d=lowZ n d.natAbs:=by unfold ofS;rw [if_neg (by omega),if_neg (by omega)]
theorem i64_mul30 {a b:Int} (ha:a.natAbs<1073741824) (hb:b.natAbs<1073741824):(a*b).natAbs<1152921504606846976:=by
 rw [Int.natAbs_mul]
 have:=mul_lt ha hb
 omega
theorem tt_ev (x y:Nat) (hx:x<18446744073709551616) (hy:y<18446744073709551616):∃ l r,Ev (fun k=>carrefourref01_Times.f k (x:Int) (y:Int)) l∧Ev (fun k=>carrefourref02_trim.f k l) r∧Num r ((x*y:Nat):Int)∧r.length≤20:=by
 obtain ⟨l,hl,nl,ll⟩:=times_ev (x:Int) (y:Int) ⟨by omega,by omega⟩ ⟨by omega,by omega⟩
 obtain ⟨r,hr,nr,lr⟩:=trim_ev nl (by omega)
 refine ⟨l,r,hl,hr,?_,by omega⟩
 have e:((x*y:Nat):Int)=(x:Int)*(y:Int):=by push_cast;rfl
 rw [e];exact nr
theorem wrap_nat {d:Int} (h0:0≤d) (h:d<9223372036854775808):IntKind.u64.wrap d=((d.natAbs:Nat):Int):=by rw [u64w (by omega) (by omega)];omega
end Go.Proofs.YtenphnkiacfmiaaDoor.Pure
