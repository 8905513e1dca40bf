/- Greatest common divisors, least common multiples, quotients: what the functions of packages whole and carrefourref01 come to.
   Conditions: as each theorem's head says. -/
import Derived.Test.YtenphnkiacfmiaaDoorP01b
import Derived.Test.YtenphnkiacfmiaaDoorG0
namespace Go.Proofs.YtenphnkiacfmiaaDoor.Pure
set_option linter.unusedVariables false
open Go.RowKit Go.Proofs.YtenphnkiacfmiaaDoor.X Go.Proofs.YtenphnkiacfmiaaDoorW.PrintWords Go.Proofs.YtenphnkiacfmiaaDoorW.PrintLast Go.Proofs.YtenphnkiacfmiaaDoorW.PrintMore
theorem ab_nat (a:Int):ab a=(a.natAbs:Int):=by unfold ab;split<;>omega
theorem tz_f (x:Nat) (h:x<18446744073709551616):bits_TrailingZeros64.f (x:Int)=some ((Lib.ctz 64 x:Nat):Int):=by
 unfold bits_TrailingZeros64.f
 rw [if_pos ⟨by omega,by omega⟩,Int.toNat_natCast]
theorem ctz_le (x:Nat) (h:x<18446744073709551616):Lib.ctz 64 x≤64:=by
 by_cases h0:x=0
 ·subst h0;decide
 ·obtain ⟨_,_,h2⟩:=ctz_spec x h0 h
  omega
theorem shr_odd (x:Nat) (h:x<18446744073709551616):shr .u64 (x:Int) ((Lib.ctz 64 x:Nat):Int)=((odd x:Nat):Int):=by
 rw [shr_of (ctz_le x h)]
 unfold odd
 push_cast
 rfl
theorem gcd_loop {t:Nat} (ht:t≤64) (d:Nat):∀ a b:Nat,a+b≤d→a % 2=1→a<18446744073709551616→b<18446744073709551616→Nat.gcd a b*2 ^ t<18446744073709551616 →
  Ev (fun k=>whole_gcd.l0 k (a:Int) (b:Int) (t:Int)) ((Nat.gcd a b*2 ^ t:Nat):Int):=by
 induction d with
 | zero=>intro a b h1 h2;omega
 | succ d ih =>
  intro a b hd ha ha' hb' hg
  by_cases hb:b=0
  ·subst hb
   refine Ev.step (f:=fun _=>some ((Nat.gcd a 0*2 ^ t:Nat):Int)) (fun k=>?_) (Ev.now _)
   simp only [whole_gcd.l0]
   rw [if_pos (show ((0:Nat):Int)=0 from rfl),if_pos (by omega),shl_of ht]
   rw [Nat.gcd_zero_right] at hg ⊢
   congr 1
   push_cast
   have e:((a*2 ^ t:Nat):Int)=(a:Int)*2 ^ t:=by push_cast;rfl
   rw [← e,Int.emod_eq_of_lt (by omega) (by omega)]
  ·obtain ⟨eb,ob,lb⟩:=odd_eq b hb hb'
   have hgo:=gcd_odd a b ha hb hb'
   have step:∀ r,Ev (fun k=>if (a:Int)>((odd b:Nat):Int) then (whole_gcd.l0 k ((odd b:Nat):Int) (IntKind.u64.wrap ((a:Int)-((odd b:Nat):Int))) (t:Int)) else (whole_gcd.l0 k (a:Int) (IntKind.u64.wrap (((odd b:Nat):Int)-(a:Int))) (t:Int))) r→Ev (fun k=>whole_gcd.l0 k (a:Int) (b:Int) (t:Int)) r:=by
    intro r hr
    refine Ev.step (fun k=>?_) hr
    simp only [whole_gcd.l0]
    rw [if_neg (by omega),tz_f b hb']
    simp only [Option.bind_some]
    rw [if_pos (by omega),shr_odd b hb']
   apply step
   by_cases hc:(a:Int)>((odd b:Nat):Int)
   ·refine Ev.itep hc ?_
    have e:IntKind.u64.wrap ((a:Int)-((odd b:Nat):Int))=((a-odd b:Nat):Int):=by rw [u64w (by omega) (by omega)];omega
    have g:Nat.gcd (odd b) (a-odd b)=Nat.gcd a b:=by rw [Nat.gcd_sub_self_right (by omega),Nat.gcd_comm];exact hgo
    rw [e,← g]
    exact ih (odd b) (a-odd b) (by omega) ob (by omega) (by omega) (by rw [g];exact hg)
   ·refine Ev.iten hc ?_
    have e:IntKind.u64.wrap (((odd b:Nat):Int)-(a:Int))=((odd b-a:Nat):Int):=by rw [u64w (by omega) (by omega)];omega
    have g:Nat.gcd a (odd b-a)=Nat.gcd a b:=by rw [Nat.gcd_sub_self_right (by omega)];exact hgo
    rw [e,← g]
    exact ih a (odd b-a) (by omega) ha (by omega) (by omega) (by rw [g];exact hg)
theorem whole_gcd_ev (a b:Nat) (ha:a<18446744073709551616) (hb:b<18446744073709551616):Ev (fun k=>whole_gcd.f k (a:Int) (b:Int)) ((Nat.gcd a b:Nat):Int):=by
 unfold whole_gcd.f
 have triv:∀ c:Bool,c=true→Nat.gcd a b=a ||| b→Ev (fun k=>whole_gcd.j0 k (a:Int) (b:Int) c) ((Nat.gcd a b:Nat):Int):=by
  rintro c rfl h
  refine Ev.step (f:=fun _=>some ((Nat.gcd a b:Nat):Int)) (fun k=>?_) (Ev.now _)
  simp only [whole_gcd.j0]
  rw [if_pos trivial,bits_or_u64_nat a b ha hb,h]
 by_cases h0:a=0
 ·subst h0
  exact Ev.itep rfl (triv true rfl (by simp))
 ·refine Ev.iten (by omega) ?_
  by_cases h1:b=0
  ·subst h1
   exact triv _ (by simp) (by simp)
  ·have hor:a ||| b<18446744073709551616:=Nat.or_lt_two_pow (n:=64) ha hb
   have hw:=gcd_whole a b h0 h1 ha hb
   have hle:Nat.gcd a b≤a:=Nat.gcd_le_left b (by omega)
   obtain ⟨_,oa,la⟩:=odd_eq a h0 ha
   have hl:=gcd_loop (t:=Lib.ctz 64 (a ||| b)) (ctz_le _ hor) (odd a+b) (odd a) b (Nat.le_refl _) oa (by omega) hb (by rw [hw];omega)
   rw [hw] at hl
   refine Ev.step (fun k=>?_) hl
   simp only [whole_gcd.j0]
   rw [if_neg (by simpa using h1),bits_or_u64_nat a b ha hb,tz_f _ hor,tz_f a ha]
   simp only [Option.bind_some]
   rw [if_pos (by omega),shr_odd a ha]
def gg (a b:Int):Nat:=Nat.gcd a.natAbs b.natAbs
def ll (a b:Int):Nat:=a.natAbs / gg a b*b.natAbs
theorem nab {a:Int} (h:I64 a):a.natAbs≤9223372036854775808:=by obtain ⟨h0,h1⟩:=h;omega
theorem gg_le {a b:Int} (ha:I64 a) (hb:I64 b):gg a b≤9223372036854775808:=by
 have h1:=nab ha;have h2:=nab hb
 unfold gg
 by_cases h:a.natAbs=0
 ·rw [h,Nat.gcd_zero_left];omega
 ·have:=Nat.gcd_le_left b.natAbs (show 0<a.natAbs by omega)
  omega
theorem Gcd_ev {a b:Int} (ha:I64 a) (hb:I64 b):Ev (fun k=>whole_Gcd.f k a b) (fit (gg a b:Int)):=by
 unfold whole_Gcd.f
 refine Ev.bindc (whole_size_f ha) (Ev.bindc (whole_size_f hb) ?_)
 rw [ab_nat,ab_nat]
 have h1:=nab ha;have h2:=nab hb;have h3:=gg_le ha hb
 have hgc:Ev (fun k=>whole_gcd.f k (a.natAbs:Int) (b.natAbs:Int)) (gg a b:Int):=whole_gcd_ev _ _ (by omega) (by omega)
 refine Ev.bind hgc ?_
 have hs:=whole_signed_ev (u:=(gg a b:Int)) (s:=1) ⟨by omega,by omega⟩ (.inr (.inl rfl))
 rw [Int.one_mul] at hs
 exact Ev.eta hs
end Go.Proofs.YtenphnkiacfmiaaDoor.Pure
