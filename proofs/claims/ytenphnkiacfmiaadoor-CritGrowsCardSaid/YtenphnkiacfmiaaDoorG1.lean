/- Plain laws on greatest common divisors by halves, and on long division by doubling: numbers of any width, no program.
   Conditions: as each theorem's head says. -/
import Derived.Test.YtenphnkiacfmiaaDoorG0
namespace Go.Proofs.YtenphnkiacfmiaaDoor.Pure
set_option linter.unusedVariables false
theorem ctzB_spec (B x:Nat) (h0:x≠0) (h:x<2 ^ B):∃ m,x=2 ^ Lib.ctz B x*(2*m+1)∧Lib.ctz B x<B:=by
 obtain ⟨m,hm,hk⟩:=Lib.ctzFrom_spec B x (by omega) h
 have e:Lib.ctz B x=Lib.ctzFrom B x:=by unfold Lib.ctz;rw [if_neg h0]
 rw [e]
 exact ⟨m,hm,hk⟩
theorem two_uniq {i j u v:Nat} (h:2 ^ i*(2*u+1)=2 ^ j*(2*v+1)):i=j:=by
 rcases Nat.lt_trichotomy i j with hl|he|hl
 ·exfalso
  obtain ⟨d,rfl⟩:∃ d,j=i+(d+1):=⟨j-i-1,by omega⟩
  rw [Nat.pow_add,Nat.mul_assoc] at h
  have h2:=Nat.eq_of_mul_eq_mul_left (Nat.two_pow_pos i) h
  rw [Nat.pow_succ,Nat.mul_comm (2 ^ d) 2,Nat.mul_assoc] at h2
  omega
 ·exact he
 ·exfalso
  obtain ⟨d,rfl⟩:∃ d,i=j+(d+1):=⟨i-j-1,by omega⟩
  rw [Nat.pow_add,Nat.mul_assoc] at h
  have h2:=Nat.eq_of_mul_eq_mul_left (Nat.two_pow_pos j) h
  rw [Nat.pow_succ,Nat.mul_comm (2 ^ d) 2,Nat.mul_assoc] at h2
  omega
theorem ctz_words (hi lo:Nat) (hhi:hi<2 ^ 64) (hlo:lo<2 ^ 64) (h0:hi*2 ^ 64+lo≠0) :
  Lib.ctz 128 (hi*2 ^ 64+lo)=if lo=0 then 64+Lib.ctz 64 hi else Lib.ctz 64 lo:=by
 have hb:hi*2 ^ 64+lo<2 ^ 128:=by omega
 obtain ⟨m,hm,_⟩:=ctzB_spec 128 _ h0 hb
 by_cases hl:lo=0
 ·subst hl
  rw [if_pos rfl]
  obtain ⟨n,hn,_⟩:=ctzB_spec 64 hi (by omega) hhi
  apply two_uniq (u:=m) (v:=n)
  rw [← hm,Nat.pow_add,Nat.mul_assoc,← hn,Nat.add_zero,Nat.mul_comm]
 ·rw [if_neg hl]
  obtain ⟨n,hn,hk⟩:=ctzB_spec 64 lo hl hlo
  obtain ⟨d,hd⟩:∃ d,64=Lib.ctz 64 lo+(d+1):=⟨64-Lib.ctz 64 lo-1,by omega⟩
  apply two_uniq (u:=m) (v:=hi*2 ^ d+n)
  have e:hi*2 ^ 64=2 ^ Lib.ctz 64 lo*(2*(hi*2 ^ d)):=by
   have:(2:Nat) ^ 64=2 ^ Lib.ctz 64 lo*(2 ^ d*2):=by rw [← Nat.pow_succ,← Nat.pow_add,← hd]
   rw [this,← Nat.mul_assoc,Nat.mul_comm hi,Nat.mul_assoc]
   congr 1
   rw [← Nat.mul_assoc,Nat.mul_comm]
  rw [← hm,e]
  conv=>lhs;rhs;rw [hn]
  rw [← Nat.mul_add]
  congr 1
  omega
def oddB (B x:Nat):Nat:=x / 2 ^ Lib.ctz B x
theorem oddB_eq (B x:Nat) (h0:x≠0) (h:x<2 ^ B):x=2 ^ Lib.ctz B x*oddB B x∧oddB B x % 2=1∧oddB B x≤x:=by
 obtain ⟨m,hm,_⟩:=ctzB_spec B x h0 h
 have hp:0<2 ^ Lib.ctz B x:=Nat.two_pow_pos _
 have e:oddB B x=2*m+1:=by
  unfold oddB
  rw [Nat.div_eq_iff_eq_mul_left hp ⟨2*m+1,hm⟩,Nat.mul_comm]
  exact hm
 rw [e]
 refine ⟨hm,by omega,?_⟩
 have h1:=Nat.le_mul_of_pos_left (2*m+1) hp
 rw [← hm] at h1
 exact h1
theorem gcd_oddB (B a x:Nat) (ha:a % 2=1) (h0:x≠0) (h:x<2 ^ B):Nat.gcd a (oddB B x)=Nat.gcd a x:=by
 obtain ⟨e,_,_⟩:=oddB_eq B x h0 h
 have:=Nat.Coprime.gcd_mul_left_cancel_right (oddB B x) (cop_two a ha (Lib.ctz B x))
 rw [← e] at this
 exact this.symm
theorem gcd_wholeB (B a b:Nat) (ha:a≠0) (hb:b≠0) (ha':a<2 ^ B) (hb':b<2 ^ B):Nat.gcd (oddB B a) b*2 ^ min (Lib.ctz B a) (Lib.ctz B b)=Nat.gcd a b:=by
 obtain ⟨ea,oa,_⟩:=oddB_eq B a ha ha'
 obtain ⟨eb,ob,_⟩:=oddB_eq B b hb hb'
 rw [← gcd_oddB B (oddB B a) b oa hb hb',← gcd_parts _ _ _ _ oa ob,← ea,← eb]
def lowF (n d:Nat) (neg:Bool):Int × Int × Int :=
 if n / Nat.gcd n d<(if neg=true then 9223372036854775809 else 9223372036854775808)∧d / Nat.gcd n d<9223372036854775808 then
  (if neg=true then -((n / Nat.gcd n d:Nat):Int) else ((n / Nat.gcd n d:Nat):Int),((d / Nat.gcd n d:Nat):Int),0) else (0,0,2)
end Go.Proofs.YtenphnkiacfmiaaDoor.Pure
