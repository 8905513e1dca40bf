/- Quotients and greatest common divisors of numbers of 128 bits, and fractions in lowest terms: what the functions of package frac come to.
   Conditions: as each theorem's head says. -/
import Derived.Test.YtenphnkiacfmiaaDoorP02a
namespace Go.Proofs.YtenphnkiacfmiaaDoor.Pure
set_option linter.unusedVariables false
open Go.RowKit Go.Proofs.YtenphnkiacfmiaaDoor.X Go.Proofs.YtenphnkiacfmiaaDoorW.PrintWords Go.Proofs.YtenphnkiacfmiaaDoorW.PrintLast Go.Proofs.YtenphnkiacfmiaaDoorW.PrintMore
theorem odd_word (q:Nat) (h:M128 (2*q)):hw (2*q+1)=hw (2*q)∧lw (2*q+1)=Go.bits .or .u64 (lw (2*q)) 1:=by
 unfold hw lw
 have e:Go.bits .or .u64 ((2*q % 18446744073709551616:Nat):Int) 1=((2*q % 18446744073709551616 ||| 1:Nat):Int):=bits_or_u64_nat (2*q % 18446744073709551616) 1 (by omega) (by omega)
 have e2:2*q % 18446744073709551616 ||| 1=2*q % 18446744073709551616+1:=by
  have:=or_add (a:=q % 9223372036854775808) (b:=1) (n:=1) (by decide)
  have e3:q % 9223372036854775808*2 ^ 1=2*q % 18446744073709551616:=by omega
  rw [e3] at this
  exact this
 rw [e,e2]
 constructor<;>omega
theorem over_loop {b N:Nat} (hb0:b≠0) (hN:N≤128) (hbN:M128 (b*2 ^ N)) {Q:Nat} (hQ:M128 Q) (n:Nat):n≤N+1→∀ a q:Nat,M128 a→a<b*2 ^ n→q*2 ^ n+a / b=Q →
  Ev (fun k=>frac_wide_over.l0 k ((n:Int)-1) (hw a) (lw a) (hw b) (lw b) (hw q) (lw q)) (hw Q,lw Q):=by
 induction n with
 | zero =>
  intro hn a q ha hab hq
  rw [Nat.pow_zero,Nat.mul_one] at hab hq
  rw [Nat.div_eq_of_lt hab,Nat.add_zero] at hq
  subst hq
  refine Ev.step (f:=fun _=>some (hw q,lw q)) (fun k=>?_) (Ev.now _)
  simp only [frac_wide_over.l0]
  rw [if_neg (by omega)]
 | succ n ih =>
  intro hn a q ha hab hq
  have hbn:M128 (b*2 ^ n):=Nat.lt_of_le_of_lt (Nat.mul_le_mul_left b (Nat.pow_le_pow_right (by decide) (by omega))) hbN
  have p0:0<2 ^ n:=Nat.two_pow_pos n
  have hq2:q*2 ^ (n+1)=2*q*2 ^ n:=by rw [Nat.pow_succ,Nat.mul_comm (2 ^ n),← Nat.mul_assoc,Nat.mul_comm q]
  have h2q:M128 (2*q):=Nat.lt_of_le_of_lt (Nat.le_trans (Nat.le_mul_of_pos_right _ p0) (by rw [← hq2,← hq];exact Nat.le_add_right _ _)) hQ
  have e1:((n+1:Nat):Int)-1=(n:Int):=by omega
  have u1:frac_wide_up.f (hw q) (lw q) 1=some (hw (2*q),lw (2*q)):=by
   have:=up_f (a:=q) (n:=1) (by rw [Nat.pow_one,Nat.mul_comm];exact h2q) (by decide)
   rw [Nat.pow_one,Nat.mul_comm] at this
   exact this
  have hs:b*2 ^ (n+1)=b*2 ^ n+b*2 ^ n:=by rw [Nat.pow_succ,← Nat.mul_assoc,Nat.mul_two]
  have hwrap:wrap64 ((n:Int)-1)=(n:Int)-1:=w64 (by omega) (by omega)
  by_cases hc:b*2 ^ n≤a
  ·obtain ⟨o1,o2⟩:=odd_word q h2q
   have hih:=ih (by omega) (a-b*2 ^ n) (2*q+1) (Nat.lt_of_le_of_lt (Nat.sub_le _ _) ha) (by omega) (by
    rw [← hq,hq2,Nat.add_mul,Nat.one_mul,Nat.add_assoc]
    congr 1
    have:a=a-b*2 ^ n+b*2 ^ n:=by omega
    conv=>rhs;rw [this]
    rw [Nat.add_mul_div_left _ _ (by omega),Nat.add_comm])
   rw [o1,o2] at hih
   refine Ev.step (fun k=>?_) hih
   simp only [frac_wide_over.l0,e1]
   rw [if_pos (by omega),u1,up_f hbn (by omega)]
   simp only [Option.bind_some]
   rw [cmp_f]
   simp only [Option.bind_some]
   rw [if_pos (show cmpN (b*2 ^ n) a≤0 by unfold cmpN;split<;>(try split)<;>omega),minus_f ha hc]
   simp only [Option.bind_some]
   rw [hwrap]
  ·have hih:=ih (by omega) a (2*q) ha (by omega) (by rw [← hq,hq2])
   refine Ev.step (fun k=>?_) hih
   simp only [frac_wide_over.l0,e1]
   rw [if_pos (by omega),u1,up_f hbn (by omega)]
   simp only [Option.bind_some]
   rw [cmp_f]
   simp only [Option.bind_some]
   rw [if_neg (show ¬ cmpN (b*2 ^ n) a≤0 by unfold cmpN;rw [if_neg (by omega),if_neg (by omega)];decide)]
   rw [hwrap]
theorem over_ev {a b:Nat} (ha:M128 a) (hb:M128 b) (hb0:b≠0):Ev (fun k=>frac_wide_over.f k (hw a) (lw a) (hw b) (lw b)) (hw (a / b),lw (a / b)):=by
 unfold frac_wide_over.f
 refine Ev.bindc (long_f ha) (Ev.bindc (long_f hb) ?_)
 obtain ⟨lb1,lb2,lb3,lb4⟩:=lg_bd hb hb0
 have small:∀ d:Int,d<0→a / b=0→Ev (fun k=>frac_wide_over.l0 k d (hw a) (lw a) (hw b) (lw b) 0 0) (hw (a / b),lw (a / b)):=by
  intro d hd hq
  rw [hq]
  refine Ev.step (f:=fun _=>some (0,0)) (fun k=>?_) (Ev.now _)
  simp only [frac_wide_over.l0]
  rw [if_neg (by omega)]
 by_cases h0:a=0
 ·subst h0
  rw [lg_zero]
  refine small _ ?_ (Nat.zero_div _)
  rw [w64 (by omega) (by omega)];omega
 ·obtain ⟨la1,la2,la3,la4⟩:=lg_bd ha h0
  rw [w64 (x:=((lg a:Nat):Int)-((lg b:Nat):Int)) (by omega) (by omega)]
  by_cases hl:lg a<lg b
  ·refine small _ (by omega) (Nat.div_eq_of_lt ?_)
   have:2 ^ lg a≤2 ^ (lg b-1):=Nat.pow_le_pow_right (by decide) (by omega)
   omega
  ·have hsplit:lg a=lg b+(lg a-lg b):=by omega
   have hN:M128 (b*2 ^ (lg a-lg b)):=by
    have h1:b*2 ^ (lg a-lg b)<2 ^ lg b*2 ^ (lg a-lg b):=Nat.mul_lt_mul_of_pos_right lb4 (Nat.two_pow_pos _)
    rw [← Nat.pow_add,← hsplit] at h1
    exact Nat.lt_of_lt_of_le h1 (Nat.pow_le_pow_right (by decide) la2)
   have hstart:a<b*2 ^ (lg a-lg b+1):=by
    refine Nat.lt_of_lt_of_le la4 ?_
    have h1:2 ^ (lg b-1)*2 ^ (lg a-lg b+1)≤b*2 ^ (lg a-lg b+1):=Nat.mul_le_mul_right _ lb3
    rw [← Nat.pow_add] at h1
    have:lg b-1+(lg a-lg b+1)=lg a:=by omega
    rw [this] at h1
    exact h1
   have:=over_loop hb0 (N:=lg a-lg b) (by omega) hN (Q:=a / b) (Nat.lt_of_le_of_lt (Nat.div_le_self _ _) ha) (lg a-lg b+1) (Nat.le_refl _) a 0 ha hstart (by rw [Nat.zero_mul,Nat.zero_add])
   have e:((lg a-lg b+1:Nat):Int)-1=((lg a:Nat):Int)-((lg b:Nat):Int):=by omega
   rw [e] at this
   exact this
theorem wgcd_loop {t:Nat} (ht:t≤128) (d:Nat):∀ a b:Nat,a+b≤d→a % 2=1→M128 a→M128 b→M128 (Nat.gcd a b*2 ^ t) →
  Ev (fun k=>frac_gcd.l0 k (t:Int) (hw a) (lw a) (hw b) (lw b)) (hw (Nat.gcd a b*2 ^ t),lw (Nat.gcd a b*2 ^ t)):=by
 induction d with
 | zero=>intro a b h1 h2;omega
 | succ d ih =>
  intro a b hd ha ha' hb' hg
  by_cases hb:b=0
  ·subst hb
   rw [Nat.gcd_zero_right] at hg ⊢
   refine Ev.step (f:=fun _=>some (hw (a*2 ^ t),lw (a*2 ^ t))) (fun k=>?_) (Ev.now _)
   simp only [frac_gcd.l0]
   rw [zero_f hb',up_f hg ht]
   simp only [Option.bind_some]
   rw [if_pos (by decide)]
  ·obtain ⟨eb,ob,lb⟩:=oddB_eq 128 b hb hb'
   have hgo:=gcd_oddB 128 a b ha hb hb'
   have hbo:M128 (oddB 128 b):=Nat.lt_of_le_of_lt lb hb'
   have hdn:frac_wide_down.f (hw b) (lw b) ((Lib.ctz 128 b:Nat):Int)=some (hw (oddB 128 b),lw (oddB 128 b)):=down_f hb' (Nat.le_of_lt (ctz128_le hb' hb))
   by_cases hc:oddB 128 b<a
   ·have g:Nat.gcd (oddB 128 b) (a-oddB 128 b)=Nat.gcd a b:=by rw [Nat.gcd_sub_self_right (by omega),Nat.gcd_comm];exact hgo
    have hih:=ih (oddB 128 b) (a-oddB 128 b) (by omega) ob hbo (Nat.lt_of_le_of_lt (Nat.sub_le _ _) ha') (by rw [g];exact hg)
    rw [g] at hih
    refine Ev.step (fun k=>?_) hih
    simp only [frac_gcd.l0]
    rw [zero_f hb',twos_f hb' hb]
    simp only [Option.bind_some]
    rw [if_neg (by simpa using hb),hdn]
    simp only [Option.bind_some]
    rw [cmp_f,minus_f ha' (by omega)]
    simp only [Option.bind_some]
    rw [if_pos (show cmpN a (oddB 128 b)>0 by unfold cmpN;rw [if_neg (by omega),if_neg (by omega)];decide)]
   ·have g:Nat.gcd a (oddB 128 b-a)=Nat.gcd a b:=by rw [Nat.gcd_sub_self_right (by omega)];exact hgo
    have hih:=ih a (oddB 128 b-a) (by omega) ha ha' (Nat.lt_of_le_of_lt (Nat.sub_le _ _) hbo) (by rw [g];exact hg)
    rw [g] at hih
    refine Ev.step (fun k=>?_) hih
    simp only [frac_gcd.l0]
    rw [zero_f hb',twos_f hb' hb]
    simp only [Option.bind_some]
    rw [if_neg (by simpa using hb),hdn]
    simp only [Option.bind_some]
    rw [cmp_f,minus_f hbo (by omega)]
    simp only [Option.bind_some]
    rw [if_neg (show ¬ cmpN a (oddB 128 b)>0 by unfold cmpN;split<;>(try split)<;>omega)]
theorem wgcd_ev (a b:Nat) (ha:M128 a) (hb:M128 b):Ev (fun k=>frac_gcd.f k (hw a) (lw a) (hw b) (lw b)) (hw (Nat.gcd a b),lw (Nat.gcd a b)):=by
 unfold frac_gcd.f
 refine Ev.bindc (zero_f ha) ?_
 by_cases h0:a=0
 ·subst h0
  rw [Nat.gcd_zero_left]
  exact Ev.itep rfl (Ev.now _)
 ·refine Ev.iten (by simpa using h0) (Ev.bindc (zero_f hb) ?_)
  by_cases h1:b=0
  ·subst h1
   rw [Nat.gcd_zero_right]
   exact Ev.itep rfl (Ev.now _)
  ·refine Ev.iten (by simpa using h1) (Ev.bindc (twos_f ha h0) (Ev.bindc (twos_f hb h1) (Ev.bindc (twos_f ha h0) (Ev.bindc (down_f ha (Nat.le_of_lt (ctz128_le ha h0))) ?_))))
   have hm:mn ((Lib.ctz 128 a:Nat):Int) ((Lib.ctz 128 b:Nat):Int)=((min (Lib.ctz 128 a) (Lib.ctz 128 b):Nat):Int):=by
    unfold mn;omega
   have hwh:=gcd_wholeB 128 a b h0 h1 ha hb
   obtain ⟨_,oa,la⟩:=oddB_eq 128 a h0 ha
   have hle:M128 (Nat.gcd a b):=Nat.lt_of_le_of_lt (Nat.gcd_le_left b (by omega)) ha
   have:=wgcd_loop (t:=min (Lib.ctz 128 a) (Lib.ctz 128 b)) (by have:=ctz128_le ha h0;omega) (oddB 128 a+b) (oddB 128 a) b (Nat.le_refl _) oa (Nat.lt_of_le_of_lt la ha) hb (by rw [hwh];exact hle)
   rw [hwh] at this
   rw [hm]
   exact this
theorem swhole_f (n:Nat) (s:Bool):frac_signed_whole.f s (hw n) (lw n)=some (if n<18446744073709551616 then (if s=true then (wrap64 (IntKind.u64.wrap (-(n:Int))),decide (n≤9223372036854775808)) else (wrap64 (n:Int),decide (n<9223372036854775808))) else (0,false)):=by
 unfold frac_signed_whole.f
 by_cases h:n<18446744073709551616
 ·have e1:decide ((n:Int)≤9223372036854775808)=decide (n≤9223372036854775808):=by rw [decide_eq_decide];omega
  have e2:decide ((n:Int)<9223372036854775808)=decide (n<9223372036854775808):=by rw [decide_eq_decide];omega
  rw [hw_small h,lw_small h,if_pos rfl,if_pos h,e1,e2]
  split<;>rfl
 ·rw [if_neg (show ¬ hw n=0 by unfold hw;omega),if_neg h]
theorem neg_word {n:Nat} (h:n≤9223372036854775808):wrap64 (IntKind.u64.wrap (-(n:Int)))=-(n:Int):=by
 unfold wrap64
 rw [IntKind.wrap_u64]
 omega
theorem reduced_ev {n d:Nat} (hn:M128 n) (hd:M128 d) (hd0:d≠0) (s t:Bool):Ev (fun k=>frac_reduced.f k s (hw n) (lw n) t (hw d) (lw d)) (lowF n d (s != t)):=by
 have hg0:Nat.gcd n d≠0:=by
  intro h
  exact hd0 (Nat.gcd_eq_zero_iff.1 h).2
 have hgM:M128 (Nat.gcd n d):=Nat.lt_of_le_of_lt (Nat.gcd_le_right n (by omega)) hd
 unfold frac_reduced.f
 refine Ev.bind (wgcd_ev n d hn hd) (Ev.bind (over_ev hn hgM hg0) (Ev.bind (over_ev hd hgM hg0) (Ev.bindc (swhole_f _ _) (Ev.bindc (swhole_f _ _) ?_))))
 unfold lowF
 generalize n / Nat.gcd n d=a
 generalize d / Nat.gcd n d=b
 generalize (s != t)=u
 have hb:(if b<18446744073709551616 then (if false=true then (wrap64 (IntKind.u64.wrap (-(b:Int))),decide (b≤9223372036854775808)) else (wrap64 (b:Int),decide (b<9223372036854775808))) else (0,false))=if b<9223372036854775808 then ((b:Int),true) else ((if b<18446744073709551616 then wrap64 (b:Int) else 0),false):=by
  by_cases h:b<9223372036854775808
  ·rw [if_pos h,if_pos (by omega),if_neg (by decide),w64 (by omega) (by omega),decide_eq_true h]
  ·rw [if_neg h]
   by_cases h2:b<18446744073709551616
   ·rw [if_pos h2,if_neg (by decide),if_pos h2,decide_eq_false h]
   ·rw [if_neg h2,if_neg h2]
 rw [hb]
 have fin:∀ (x y:Int) (c:Bool),(∀ (_:c=true),x=(if u=true then -(a:Int) else (a:Int)))→(c=true↔a<(if u=true then 9223372036854775809 else 9223372036854775808)) →
   Ev (fun k=>if (x,c).2=true then (if (if b<9223372036854775808 then ((b:Int),true) else ((if b<18446744073709551616 then wrap64 (b:Int) else 0),false)).2=true then some ((x,c).1,(if b<9223372036854775808 then ((b:Int),true) else ((if b<18446744073709551616 then wrap64 (b:Int) else 0),false)).1,(0:Int)) else some (0,0,2)) else some (0,0,2))
    (if a<(if u=true then 9223372036854775809 else 9223372036854775808)∧b<9223372036854775808 then (if u=true then -(a:Int) else (a:Int),(b:Int),0) else (0,0,2)):=by
  intro x y c hx hc
  by_cases h1:a<(if u=true then 9223372036854775809 else 9223372036854775808)
  ·by_cases h2:b<9223372036854775808
   ·have H:a<(if u=true then 9223372036854775809 else 9223372036854775808)∧b<9223372036854775808:=⟨h1,h2⟩
    rw [if_pos h2,if_pos H,hx (hc.2 h1)]
    exact Ev.itep (hc.2 h1) (Ev.itep rfl (Ev.now _))
   ·have H:¬ (a<(if u=true then 9223372036854775809 else 9223372036854775808)∧b<9223372036854775808):=fun h=>h2 h.2
    rw [if_neg h2,if_neg H]
    exact Ev.itep (hc.2 h1) (Ev.iten Bool.false_ne_true (Ev.now _))
  ·have H:¬ (a<(if u=true then 9223372036854775809 else 9223372036854775808)∧b<9223372036854775808):=fun h=>h1 h.1
   rw [if_neg H]
   exact Ev.iten (fun h=>h1 (hc.1 h)) (Ev.now _)
 by_cases hA:a<18446744073709551616
 ·rw [if_pos hA]
  by_cases hu:u=true
  ·rw [if_pos hu]
   exact fin _ 0 _ (fun h=>by rw [if_pos hu];exact neg_word (by simpa using h)) (by rw [if_pos hu,decide_eq_true_eq];omega)
  ·rw [if_neg hu]
   exact fin _ 0 _ (fun h=>by rw [if_neg hu];have h:=of_decide_eq_true h;exact w64 (by omega) (by omega)) (by rw [if_neg hu,decide_eq_true_eq])
 ·rw [if_neg hA]
  exact fin _ 0 _ (fun h=>by simp at h) ⟨fun h=>by simp at h,fun h=>by exfalso;revert h;split<;>omega⟩
end Go.Proofs.YtenphnkiacfmiaaDoor.Pure
