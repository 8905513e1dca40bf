/- Plain laws on greatest common divisors by halves: numbers alone, no program.
   Conditions: as each theorem's head says. -/
import Derived.Lib.TrailingZeros
namespace Go.Proofs.YtenphnkiacfmiaaDoor.Pure
set_option linter.unusedVariables false
theorem ctz_spec (x:Nat) (h0:x≠0) (h:x<2 ^ 64):∃ m,x=2 ^ Lib.ctz 64 x*(2*m+1)∧Lib.ctz 64 x<64:=by
 obtain ⟨m,hm,hk⟩:=Lib.ctzFrom_spec 64 x (by omega) h
 have e:Lib.ctz 64 x=Lib.ctzFrom 64 x:=by unfold Lib.ctz;rw [if_neg h0]
 rw [e]
 exact ⟨m,hm,hk⟩
def odd (x:Nat):Nat:=x / 2 ^ Lib.ctz 64 x
theorem odd_eq (x:Nat) (h0:x≠0) (h:x<2 ^ 64):x=2 ^ Lib.ctz 64 x*odd x∧odd x % 2=1∧odd x≤x:=by
 obtain ⟨m,hm,_⟩:=ctz_spec x h0 h
 have hp:0<2 ^ Lib.ctz 64 x:=Nat.two_pow_pos _
 have e:odd x=2*m+1:=by
  unfold odd
  rw [Nat.div_eq_iff_eq_mul_left hp ⟨2*m+1,hm⟩,Nat.mul_comm]
  exact hm
 rw [e]
 refine ⟨hm,by omega,?_⟩
 have h1:=Nat.le_mul_of_pos_left (2*m+1) hp
 rw [← hm] at h1
 exact h1
theorem cop_two (a:Nat) (h:a % 2=1) (j:Nat):Nat.Coprime (2 ^ j) a:=by
 apply Nat.Coprime.pow_left
 unfold Nat.Coprime
 rw [Nat.gcd_rec,h]
 rfl
theorem gcd_odd (a x:Nat) (ha:a % 2=1) (h0:x≠0) (h:x<2 ^ 64):Nat.gcd a (odd x)=Nat.gcd a x:=by
 obtain ⟨e,_,_⟩:=odd_eq x h0 h
 have:=Nat.Coprime.gcd_mul_left_cancel_right (odd x) (cop_two a ha (Lib.ctz 64 x))
 rw [← e] at this
 exact this.symm
theorem or_dvd (t a b:Nat):2 ^ t∣(a ||| b)↔2 ^ t∣a∧2 ^ t∣b:=by
 rw [Nat.dvd_iff_mod_eq_zero,Nat.dvd_iff_mod_eq_zero,Nat.dvd_iff_mod_eq_zero,Nat.or_mod_two_pow,Nat.or_eq_zero_iff]
theorem pow_dvd_iff (x t:Nat) (h0:x≠0) (h:x<2 ^ 64):2 ^ t∣x↔t≤Lib.ctz 64 x:=by
 obtain ⟨e,ho,_⟩:=odd_eq x h0 h
 constructor
 ·intro hd
  apply Nat.le_of_not_lt
  intro hlt
  obtain ⟨d,rfl⟩:∃ d,t=Lib.ctz 64 x+(d+1):=⟨t-Lib.ctz 64 x-1,by omega⟩
  have hd':2 ^ Lib.ctz 64 x*2 ^ (d+1)∣2 ^ Lib.ctz 64 x*odd x:=by rw [← e,← Nat.pow_add];exact hd
  have hd2:=Nat.dvd_of_mul_dvd_mul_left (Nat.two_pow_pos _) hd'
  rw [Nat.pow_succ] at hd2
  have:2∣odd x:=Nat.dvd_trans ⟨2 ^ d,by rw [Nat.mul_comm]⟩ hd2
  omega
 ·intro hle
  exact Nat.dvd_trans (Nat.pow_dvd_pow 2 hle) ⟨odd x,e⟩
theorem ctz_or (a b:Nat) (ha:a≠0) (hb:b≠0) (ha':a<2 ^ 64) (hb':b<2 ^ 64):Lib.ctz 64 (a ||| b)=min (Lib.ctz 64 a) (Lib.ctz 64 b):=by
 have hor:a ||| b≠0:=by intro h;exact ha (Nat.or_eq_zero_iff.1 h).1
 have hlt:a ||| b<2 ^ 64:=Nat.or_lt_two_pow ha' hb'
 have key:∀ t,t≤Lib.ctz 64 (a ||| b)↔t≤Lib.ctz 64 a∧t≤Lib.ctz 64 b:=fun t=>by
  rw [← pow_dvd_iff _ _ hor hlt,or_dvd,pow_dvd_iff _ _ ha ha',pow_dvd_iff _ _ hb hb']
 have k1:=key (Lib.ctz 64 (a ||| b))
 have k2:=key (min (Lib.ctz 64 a) (Lib.ctz 64 b))
 omega
theorem gcd_parts (i j u v:Nat) (hu:u % 2=1) (hv:v % 2=1):Nat.gcd (2 ^ i*u) (2 ^ j*v)=Nat.gcd u v*2 ^ min i j:=by
 rcases Nat.le_total i j with h|h
 ·obtain ⟨d,rfl⟩:∃ d,j=i+d:=⟨j-i,by omega⟩
  rw [Nat.min_eq_left h,Nat.pow_add,Nat.mul_assoc,Nat.gcd_mul_left,Nat.Coprime.gcd_mul_left_cancel_right v (cop_two u hu d),Nat.mul_comm]
 ·obtain ⟨d,rfl⟩:∃ d,i=j+d:=⟨i-j,by omega⟩
  rw [Nat.min_eq_right h,Nat.pow_add,Nat.mul_assoc,Nat.gcd_mul_left,Nat.Coprime.gcd_mul_left_cancel u (cop_two v hv d),Nat.mul_comm]
theorem gcd_whole (a b:Nat) (ha:a≠0) (hb:b≠0) (ha':a<2 ^ 64) (hb':b<2 ^ 64):Nat.gcd (odd a) b*2 ^ Lib.ctz 64 (a ||| b)=Nat.gcd a b:=by
 obtain ⟨ea,oa,_⟩:=odd_eq a ha ha'
 obtain ⟨eb,ob,_⟩:=odd_eq b hb hb'
 rw [ctz_or a b ha hb ha' hb',← gcd_odd (odd a) b oa hb hb',← gcd_parts _ _ _ _ oa ob,← ea,← eb]
end Go.Proofs.YtenphnkiacfmiaaDoor.Pure
