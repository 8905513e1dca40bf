/- Numbers of 128 bits in two words: what the functions of package frac on them come to.
   Conditions: as each theorem's head says. -/
import Derived.Test.YtenphnkiacfmiaaDoorP01g
import Derived.Test.YtenphnkiacfmiaaDoorG1
namespace Go.Proofs.YtenphnkiacfmiaaDoor.Pure
set_option linter.unusedVariables false
open Go.RowKit Go.Proofs.YtenphnkiacfmiaaDoor.X Go.Proofs.YtenphnkiacfmiaaDoorW.PrintWords Go.Proofs.YtenphnkiacfmiaaDoorW.PrintLast Go.Proofs.YtenphnkiacfmiaaDoorW.PrintMore
def hw (n:Nat):Int:=((n / 18446744073709551616:Nat):Int)
def lw (n:Nat):Int:=((n % 18446744073709551616:Nat):Int)
def M128 (n:Nat):Prop:=n<340282366920938463463374607431768211456
theorem hw_bd {n:Nat} (h:M128 n):n / 18446744073709551616<18446744073709551616:=by unfold M128 at h;omega
theorem lw_bd (n:Nat):n % 18446744073709551616<18446744073709551616:=by omega
theorem w_eq {a b:Nat} (h:hw a=hw b) (k:lw a=lw b):a=b:=by unfold hw at h;unfold lw at k;omega
theorem lw_small {n:Nat} (h:n<18446744073709551616):lw n=n:=by unfold lw;omega
theorem hw_small {n:Nat} (h:n<18446744073709551616):hw n=0:=by unfold hw;omega
theorem or_add {a b n:Nat} (hb:b<2 ^ n):a*2 ^ n ||| b=a*2 ^ n+b:=by rw [Nat.mul_comm,Nat.two_pow_add_eq_or_of_lt hb]
theorem or_add' {a b n:Nat} (hb:b<2 ^ n):b ||| a*2 ^ n=a*2 ^ n+b:=by rw [Nat.or_comm,or_add hb]
theorem pow64 {n:Nat} (h:n≤64):(2:Nat) ^ n*2 ^ (64-n)=18446744073709551616:=by
 rw [← Nat.pow_add,Nat.add_sub_cancel' h]
theorem pow128 {n:Nat} (h:64≤n):(2:Nat) ^ n=2 ^ (n-64)*18446744073709551616:=by
 have:n=(n-64)+64:=by omega
 conv=>lhs;rw [this]
 rw [Nat.pow_add]
theorem shl_nat (a n:Nat) (hn:n≤64):shl .u64 (a:Int) (n:Int)=((a*2 ^ n % 18446744073709551616:Nat):Int):=by
 have e:((a*2 ^ n:Nat):Int)=(a:Int)*2 ^ n:=by push_cast;rfl
 rw [shl_of hn,← e];omega
theorem shr_nat (a n:Nat) (hn:n≤64):shr .u64 (a:Int) (n:Int)=((a / 2 ^ n:Nat):Int):=by
 rw [shr_of hn];push_cast;rfl
theorem zero_f {a:Nat} (ha:M128 a):frac_wide_zero.f (hw a) (lw a)=some (decide (a=0)):=by
 unfold frac_wide_zero.f hw lw
 rw [bits_or_u64_nat _ _ (hw_bd ha) (lw_bd a)]
 congr 1
 rw [Bool.eq_iff_iff]
 simp only [beq_iff_eq,decide_eq_true_eq]
 constructor
 ·intro h
  have h':a / 18446744073709551616 ||| a % 18446744073709551616=0:=by omega
  have:=Nat.or_eq_zero_iff.1 h'
  omega
 ·rintro rfl;rfl
theorem twos_f {a:Nat} (ha:M128 a) (h0:a≠0):frac_wide_twos.f (hw a) (lw a)=some ((Lib.ctz 128 a:Nat):Int):=by
 have e:a / 18446744073709551616*2 ^ 64+a % 18446744073709551616=a:=by omega
 have c:=ctz_words (a / 18446744073709551616) (a % 18446744073709551616) (hw_bd ha) (lw_bd a) (by omega)
 rw [e] at c
 unfold frac_wide_twos.f hw lw
 by_cases hl:a % 18446744073709551616=0
 ·rw [if_pos (by omega),tz_f _ (hw_bd ha)]
  rw [if_pos hl] at c
  have:=ctz_le _ (hw_bd ha)
  simp only [Option.bind_some]
  rw [w64 (by omega) (by omega),c]
  push_cast;rfl
 ·rw [if_neg (by omega),tz_f _ (lw_bd a)]
  rw [if_neg hl] at c
  simp only [Option.bind_some]
  rw [c]
theorem ctz128_le {a:Nat} (ha:M128 a) (h0:a≠0):Lib.ctz 128 a<128:=by
 obtain ⟨_,_,h⟩:=ctzB_spec 128 a h0 ha
 exact h
theorem down_f {a n:Nat} (ha:M128 a) (hn:n≤128):frac_wide_down.f (hw a) (lw a) (n:Int)=some (hw (a / 2 ^ n),lw (a / 2 ^ n)):=by
 unfold frac_wide_down.f
 by_cases h:64≤n
 ·have e:(n:Int)-64=((n-64:Nat):Int):=by omega
  rw [if_pos (by omega),w64 (by omega) (by omega),if_pos (by omega),e]
  unfold hw lw
  rw [shr_nat _ _ (by omega)]
  have e2:a / 2 ^ n=a / 18446744073709551616 / 2 ^ (n-64):=by rw [Nat.div_div_eq_div_mul,pow128 h,Nat.mul_comm]
  have lt:a / 2 ^ n<18446744073709551616:=by
   rw [e2]
   exact Nat.lt_of_le_of_lt (Nat.div_le_self _ _) (hw_bd ha)
  rw [← e2,Nat.div_eq_of_lt lt,Nat.mod_eq_of_lt lt]
  rfl
 ·have e:(64:Int)-n=((64-n:Nat):Int):=by omega
  rw [if_neg (by omega),if_pos (by omega),w64 (by omega) (by omega),if_pos (by omega),e]
  unfold hw lw
  have pq:=pow64 (n:=n) (by omega)
  have p0:0<2 ^ n:=Nat.two_pow_pos n
  have r0:0<2 ^ (64-n):=Nat.two_pow_pos (64-n)
  rw [shr_nat _ _ (by omega),shr_nat _ _ (by omega),shl_nat _ _ (by omega)]
  have hm:a / 18446744073709551616*2 ^ (64-n) % 18446744073709551616=(a / 18446744073709551616 % 2 ^ n)*2 ^ (64-n):=by
   conv=>lhs;rhs;rw [← pq]
   rw [Nat.mul_mod_mul_right]
  have hlt:a % 18446744073709551616 / 2 ^ n<2 ^ (64-n):=by
   apply Nat.div_lt_of_lt_mul
   rw [pq];exact lw_bd a
  have hmlt:a / 18446744073709551616*2 ^ (64-n) % 18446744073709551616<18446744073709551616:=lw_bd _
  rw [bits_or_u64_nat _ _ (Nat.lt_of_le_of_lt (Nat.div_le_self _ _) (lw_bd a)) hmlt,hm,or_add' hlt]
  have e1:a / 2 ^ n / 18446744073709551616=a / 18446744073709551616 / 2 ^ n:=by rw [Nat.div_div_eq_div_mul,Nat.div_div_eq_div_mul,Nat.mul_comm]
  have e2:a / 2 ^ n=a / 18446744073709551616*2 ^ (64-n)+a % 18446744073709551616 / 2 ^ n:=by
   have:a=a % 18446744073709551616+(a / 18446744073709551616*2 ^ (64-n))*2 ^ n:=by
    rw [Nat.mul_assoc,Nat.mul_comm (2 ^ (64-n)),pq];omega
   conv=>lhs;rw [this]
   rw [Nat.add_mul_div_right _ _ p0,Nat.add_comm]
  have e3:a / 2 ^ n % 18446744073709551616=(a / 18446744073709551616 % 2 ^ n)*2 ^ (64-n)+a % 18446744073709551616 / 2 ^ n:=by
   rw [e2,Nat.add_mod,hm]
   have b1:(a / 18446744073709551616 % 2 ^ n)*2 ^ (64-n)+2 ^ (64-n)≤18446744073709551616:=by
    rw [← Nat.succ_mul,← pq]
    exact Nat.mul_le_mul_right _ (Nat.mod_lt _ p0)
   have b2:a % 18446744073709551616 / 2 ^ n % 18446744073709551616=a % 18446744073709551616 / 2 ^ n:=Nat.mod_eq_of_lt (Nat.lt_of_le_of_lt (Nat.div_le_self _ _) (lw_bd a))
   rw [b2,Nat.mod_eq_of_lt (by omega)]
  rw [e1,e3]
theorem up_f {a n:Nat} (ha:M128 (a*2 ^ n)) (hn:n≤128):frac_wide_up.f (hw a) (lw a) (n:Int)=some (hw (a*2 ^ n),lw (a*2 ^ n)):=by
 unfold frac_wide_up.f
 have p0:0<2 ^ n:=Nat.two_pow_pos n
 have ha':M128 a:=Nat.lt_of_le_of_lt (Nat.le_mul_of_pos_right a p0) ha
 by_cases h:64≤n
 ·have e:(n:Int)-64=((n-64:Nat):Int):=by omega
  rw [if_pos (by omega),w64 (by omega) (by omega),if_pos (by omega),e]
  have e2:a*2 ^ n=a*2 ^ (n-64)*18446744073709551616:=by rw [pow128 h,Nat.mul_assoc]
  unfold M128 at ha
  rw [e2] at ha
  have lt:a*2 ^ (n-64)<18446744073709551616:=by omega
  have la:a<18446744073709551616:=Nat.lt_of_le_of_lt (Nat.le_mul_of_pos_right a (Nat.two_pow_pos _)) lt
  rw [lw_small la,shl_nat _ _ (by omega),e2]
  unfold hw lw
  rw [Nat.mod_eq_of_lt lt,Nat.mul_div_cancel _ (by omega),Nat.mul_mod_left]
  rfl
 ·have e:(64:Int)-n=((64-n:Nat):Int):=by omega
  rw [if_neg (by omega),if_pos (by omega),w64 (by omega) (by omega),if_pos (by omega),e]
  unfold hw lw
  have pq:=pow64 (n:=n) (by omega)
  have r0:0<2 ^ (64-n):=Nat.two_pow_pos (64-n)
  rw [shr_nat _ _ (by omega),shl_nat _ _ (by omega),shl_nat _ _ (by omega)]
  have ex:a*2 ^ n=a / 18446744073709551616*2 ^ n*18446744073709551616+a % 18446744073709551616*2 ^ n:=by
   have:a=a / 18446744073709551616*18446744073709551616+a % 18446744073709551616:=by omega
   conv=>lhs;rw [this]
   rw [Nat.add_mul,Nat.mul_assoc,Nat.mul_comm 18446744073709551616,← Nat.mul_assoc]
  have hlt:a % 18446744073709551616 / 2 ^ (64-n)<2 ^ n:=by
   apply Nat.div_lt_of_lt_mul
   rw [Nat.mul_comm,pq];exact lw_bd a
  have hx:a / 18446744073709551616*2 ^ n+a % 18446744073709551616 / 2 ^ (64-n)=a*2 ^ n / 18446744073709551616:=by
   rw [ex,Nat.add_comm (_*18446744073709551616),Nat.add_mul_div_right _ _ (by decide),Nat.add_comm]
   congr 1
   conv=>rhs;rhs;rw [← pq,Nat.mul_comm]
   rw [Nat.mul_div_mul_right _ _ p0]
  have hh:a / 18446744073709551616*2 ^ n<18446744073709551616:=by have:=hw_bd ha;omega
  rw [Nat.mod_eq_of_lt hh,bits_or_u64_nat _ _ hh (Nat.lt_of_le_of_lt (Nat.div_le_self _ _) (lw_bd a)),or_add hlt,hx,Nat.mod_mul_mod]
def cmpN (a b:Nat):Int:=if a=b then 0 else if a<b then -1 else 1
theorem cmp_f (a b:Nat):frac_wide_cmp.f (hw a) (lw a) (hw b) (lw b)=some (cmpN a b):=by
 unfold frac_wide_cmp.f cmpN
 by_cases h:a=b
 ·subst h
  rw [if_pos (by simp),if_pos rfl]
 ·have hne:¬ ((hw a==hw b&&(lw a==lw b))=true):=by
   simp only [Bool.and_eq_true,beq_iff_eq]
   exact fun ⟨x,y⟩=>h (w_eq x y)
  rw [if_neg hne,if_neg h]
  unfold hw lw
  by_cases h1:a / 18446744073709551616<b / 18446744073709551616
  ·rw [if_pos (by omega),if_pos (by omega)]
  ·rw [if_neg (by omega)]
   by_cases h2:a / 18446744073709551616=b / 18446744073709551616
   ·rw [if_pos (by omega)]
    by_cases h3:a % 18446744073709551616<b % 18446744073709551616
    ·rw [if_pos (by omega),if_pos (by omega)]
    ·rw [if_neg (by omega),if_neg (by omega)]
   ·rw [if_neg (by omega),if_neg (by omega)]
theorem minus_lo {a b:Nat} (h:b≤a):(((a % 18446744073709551616:Nat):Int)-((b % 18446744073709551616:Nat):Int)-0) % 18446744073709551616=(((a-b) % 18446744073709551616:Nat):Int):=by omega
theorem minus_hi1 {a b:Nat} (ha:M128 a) (h:b≤a) (c:a % 18446744073709551616<b % 18446744073709551616):(((a / 18446744073709551616:Nat):Int)-((b / 18446744073709551616:Nat):Int)-1) % 18446744073709551616=(((a-b) / 18446744073709551616:Nat):Int):=by unfold M128 at ha;omega
theorem minus_hi0 {a b:Nat} (ha:M128 a) (h:b≤a) (c:¬ a % 18446744073709551616<b % 18446744073709551616):(((a / 18446744073709551616:Nat):Int)-((b / 18446744073709551616:Nat):Int)-0) % 18446744073709551616=(((a-b) / 18446744073709551616:Nat):Int):=by unfold M128 at ha;omega
theorem sub64_f {x y c:Int} (h:0≤x∧0≤y∧y<18446744073709551616∧0≤c∧c≤1):bits_Sub64.f x y c=some ((x-y-c) % 18446744073709551616,if x<y+c then 1 else 0):=by unfold bits_Sub64.f;rw [if_pos h]
theorem sub_lo {a b:Nat} (h:b≤a):bits_Sub64.f (lw a) (lw b) 0=some (lw (a-b),if a % 18446744073709551616<b % 18446744073709551616 then 1 else 0):=by
 rw [sub64_f (by unfold lw;omega)]
 unfold lw;rw [minus_lo h]
 congr 2
 by_cases c:a % 18446744073709551616<b % 18446744073709551616
 ·rw [if_pos c,if_pos (by omega)]
 ·rw [if_neg c,if_neg (by omega)]
theorem sub_hi1 {a b:Nat} (ha:M128 a) (h:b≤a) (c:a % 18446744073709551616<b % 18446744073709551616):∃ x,bits_Sub64.f (hw a) (hw b) 1=some (hw (a-b),x):=by
 have:=hw_bd ha
 exact ⟨_,by rw [sub64_f (by unfold hw;omega)];unfold hw;rw [minus_hi1 ha h c]⟩
theorem sub_hi0 {a b:Nat} (ha:M128 a) (h:b≤a) (c:¬ a % 18446744073709551616<b % 18446744073709551616):∃ x,bits_Sub64.f (hw a) (hw b) 0=some (hw (a-b),x):=by
 have:=hw_bd ha
 exact ⟨_,by rw [sub64_f (by unfold hw;omega)];unfold hw;rw [minus_hi0 ha h c]⟩
theorem minus_f {a b:Nat} (ha:M128 a) (h:b≤a):frac_wide_minus.f (hw a) (lw a) (hw b) (lw b)=some (hw (a-b),lw (a-b)):=by
 unfold frac_wide_minus.f
 rw [sub_lo h,Option.bind_some]
 dsimp only
 by_cases c:a % 18446744073709551616<b % 18446744073709551616
 ·obtain ⟨x,e⟩:=sub_hi1 ha h c
  rw [if_pos c,e,Option.bind_some]
 ·obtain ⟨x,e⟩:=sub_hi0 ha h c
  rw [if_neg c,e,Option.bind_some]
theorem plus_lo {a b:Nat}:(((a % 18446744073709551616:Nat):Int)+((b % 18446744073709551616:Nat):Int)+0) % 18446744073709551616=(((a+b) % 18446744073709551616:Nat):Int):=by omega
theorem plus_hi {a b:Nat} (h:M128 (a+b)):(((a / 18446744073709551616:Nat):Int)+((b / 18446744073709551616:Nat):Int)+(((a % 18446744073709551616:Nat):Int)+((b % 18446744073709551616:Nat):Int)+0) / 18446744073709551616) % 18446744073709551616=(((a+b) / 18446744073709551616:Nat):Int):=by unfold M128 at h;omega
theorem add64_f {x y c:Int} (h:0≤x∧0≤y∧0≤c∧c≤1):bits_Add64.f x y c=some ((x+y+c) % 18446744073709551616,(x+y+c) / 18446744073709551616):=by unfold bits_Add64.f;rw [if_pos h]
theorem add_lo (a b:Nat):bits_Add64.f (lw a) (lw b) 0=some (lw (a+b),(((a % 18446744073709551616:Nat):Int)+((b % 18446744073709551616:Nat):Int)+0) / 18446744073709551616):=by
 rw [add64_f (by unfold lw;omega)]
 unfold lw;rw [plus_lo]
theorem add_hi {a b:Nat} (h:M128 (a+b)):∃ x,bits_Add64.f (hw a) (hw b) ((((a % 18446744073709551616:Nat):Int)+((b % 18446744073709551616:Nat):Int)+0) / 18446744073709551616)=some (hw (a+b),x) :=
 ⟨_,by rw [add64_f (by unfold hw;omega)];unfold hw;rw [plus_hi h]⟩
theorem plus_f {a b:Nat} (h:M128 (a+b)):frac_wide_plus.f (hw a) (lw a) (hw b) (lw b)=some (hw (a+b),lw (a+b)):=by
 unfold frac_wide_plus.f
 rw [add_lo,Option.bind_some]
 dsimp only
 obtain ⟨x,e⟩:=add_hi h
 rw [e,Option.bind_some]
def lg (a:Nat):Nat:=if a / 18446744073709551616=0 then Lib.bitLen (a % 18446744073709551616) else 64+Lib.bitLen (a / 18446744073709551616)
theorem lg_bd {a:Nat} (ha:M128 a) (h0:a≠0):1≤lg a∧lg a≤128∧2 ^ (lg a-1)≤a∧a<2 ^ lg a:=by
 unfold lg
 by_cases h:a / 18446744073709551616=0
 ·rw [if_pos h]
  have e:a % 18446744073709551616=a:=by omega
  rw [e]
  obtain ⟨b1,b2,b3,b4⟩:=bitLen_bd a h0 (by omega)
  exact ⟨b1,by omega,b3,b4⟩
 ·rw [if_neg h]
  obtain ⟨b1,b2,b3,b4⟩:=bitLen_bd _ h (hw_bd ha)
  refine ⟨by omega,by omega,?_,?_⟩
  ·have e:64+Lib.bitLen (a / 18446744073709551616)-1=(Lib.bitLen (a / 18446744073709551616)-1)+64:=by omega
   rw [e,Nat.pow_add];omega
  ·rw [Nat.add_comm,Nat.pow_add];omega
theorem lg_zero:lg 0=0:=by decide
theorem long_f {a:Nat} (ha:M128 a):frac_wide_long.f (hw a) (lw a)=some ((lg a:Nat):Int):=by
 unfold frac_wide_long.f lg hw lw bits_Len64.f
 by_cases h:a / 18446744073709551616=0
 ·rw [if_pos (by omega),if_pos h,if_pos ⟨by omega,by omega⟩,Int.toNat_natCast]
  rfl
 ·obtain ⟨b1,b2,b3,b4⟩:=bitLen_bd _ h (hw_bd ha)
  have:=hw_bd ha
  rw [if_neg (by omega),if_neg h,if_pos ⟨by omega,by omega⟩,Int.toNat_natCast]
  simp only [Option.bind_some]
  rw [w64 (by omega) (by omega)]
  push_cast;rfl
end Go.Proofs.YtenphnkiacfmiaaDoor.Pure
