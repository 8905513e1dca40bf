/- What the printed functions of package whole and of math/bits come to: products of two words, their quotient, sizes and signs.
   Conditions: as each theorem's head says. -/
import Derived.Test.YtenphnkiacfmiaaDoorP01a
namespace Go.Proofs.YtenphnkiacfmiaaDoor.Pure
set_option linter.unusedVariables false
open Go.RowKit Go.Proofs.YtenphnkiacfmiaaDoor.X Go.Proofs.YtenphnkiacfmiaaDoorW.PrintWords Go.Proofs.YtenphnkiacfmiaaDoorW.PrintLast Go.Proofs.YtenphnkiacfmiaaDoorW.PrintMore
theorem mul64 {a b:Int} (ha:U64 a) (hb:U64 b):bits_Mul64.f a b=some (a*b / 18446744073709551616,a*b % 18446744073709551616):=by
 obtain ⟨a0,a1⟩:=ha
 obtain ⟨b0,b1⟩:=hb
 have h:=mul64_arith a b a0 a1 b0 b1
 unfold bits_Mul64.f
 rw [and_low32 a a0 a1,and_low32 b b0 b1]
 simp only [IntKind.wrap_u64]
 rw [and_low32 _ (by omega) (by omega),h]
def ab (a:Int):Int:=if a<0 then -a else a
theorem ab_bd {a:Int} (h:I64 a):0≤ab a∧ab a≤9223372036854775808:=by
 obtain ⟨h0,h1⟩:=h;unfold ab;split<;>omega
theorem ab_u {a:Int} (h:I64 a):U64 (ab a):=by have:=ab_bd h;exact ⟨by omega,by omega⟩
theorem whole_size_f {a:Int} (h:I64 a):whole_size.f a=some (ab a):=by
 obtain ⟨h0,h1⟩:=h
 unfold whole_size.f ab
 simp only [IntKind.wrap_u64]
 by_cases c:a<0
 ·rw [if_pos c,if_pos c];congr 1;omega
 ·rw [if_neg c,if_neg c];congr 1;omega
theorem Size_f {a:Int} (h:I64 a):carrefourref01_Size.f a=some (ab a):=by
 obtain ⟨h0,h1⟩:=h
 unfold carrefourref01_Size.f ab
 simp only [IntKind.wrap_u64]
 by_cases c:a<0
 ·rw [if_pos c,if_pos c];congr 1;omega
 ·rw [if_neg c,if_neg c];congr 1;omega
theorem product_f {a b:Int} (ha:I64 a) (hb:I64 b):whole_product.f a b=some (ab a*ab b / 18446744073709551616,ab a*ab b % 18446744073709551616):=by
 unfold whole_product.f
 rw [whole_size_f ha,whole_size_f hb]
 simp only [Option.bind_some,mul64 (ab_u ha) (ab_u hb)]
theorem prod_bd {a b:Int} (ha:I64 a) (hb:I64 b):0≤ab a*ab b∧ab a*ab b≤85070591730234615865843651857942052864:=by
 have h1:=ab_bd ha;have h2:=ab_bd hb
 refine ⟨Int.mul_nonneg h1.1 h2.1,?_⟩
 have:=Int.mul_le_mul h1.2 h2.2 h2.1 (by omega:(0:Int)≤9223372036854775808)
 omega
def sg (a b:Int):Int:=if a=0∨b=0 then 0 else if decide (a<0)=decide (b<0) then 1 else -1
theorem sg_spec (a b:Int):(sg a b=1∧a*b=ab a*ab b∧0<ab a*ab b)∨(sg a b=-1∧a*b=-(ab a*ab b)∧0<ab a*ab b)∨(sg a b=0∧a*b=0∧ab a*ab b=0):=by
 unfold sg
 by_cases h:a=0∨b=0
 ·rw [if_pos h]
  refine .inr (.inr ⟨rfl,?_⟩)
  rcases h with rfl|rfl
  ·simp [ab]
  ·simp [ab]
 ·rw [if_neg h]
  unfold ab
  by_cases ha:a<0
  ·by_cases hb:b<0
   ·have e:a*b=-a*-b:=by rw [Int.neg_mul_neg]
    have p:0 < -a*-b:=Int.mul_pos (by omega) (by omega)
    simp only [ha,hb,if_true]
    exact .inl ⟨trivial,e,p⟩
   ·have e:a*b=-(-a*b):=by rw [Int.neg_mul,Int.neg_neg]
    have p:0 < -a*b:=Int.mul_pos (by omega) (by omega)
    simp only [ha,hb,if_true,if_false,decide_true,decide_false]
    exact .inr (.inl ⟨by simp,e,p⟩)
  ·by_cases hb:b<0
   ·have e:a*b=-(a*-b):=by rw [Int.mul_neg,Int.neg_neg]
    have p:0<a*-b:=Int.mul_pos (by omega) (by omega)
    simp only [ha,hb,if_true,if_false,decide_true,decide_false]
    exact .inr (.inl ⟨by simp,e,p⟩)
   ·have p:0<a*b:=Int.mul_pos (by omega) (by omega)
    simp only [ha,hb,if_false]
    exact .inl ⟨by simp,trivial,p⟩
theorem whole_sign_ev (a b:Int):Ev (fun k=>whole_sign.f k a b) (sg a b):=by
 unfold whole_sign.f sg
 by_cases h:a=0
 ·rw [if_pos (.inl h)]
  simp only [if_pos h]
  exact Ev.step (f:=fun _=>some 0) (fun k=>by simp only [whole_sign.j0];rw [if_pos trivial]) (Ev.now _)
 ·simp only [if_neg h]
  by_cases h2:b=0
  ·rw [if_pos (.inr h2)]
   exact Ev.step (f:=fun _=>some 0) (fun k=>by simp only [whole_sign.j0];rw [if_pos (by simpa using h2)]) (Ev.now _)
  ·rw [if_neg (by omega)]
   refine Ev.step (f:=fun _=>some (if decide (a<0)=decide (b<0) then 1 else -1)) (fun k=>?_) (Ev.now _)
   simp only [whole_sign.j0]
   rw [if_neg (by simpa using h2)]
   by_cases h3:decide (a<0)=decide (b<0)
   ·rw [if_pos h3,if_neg (by simp [h3])]
   ·rw [if_neg h3,if_pos (by simpa using h3)]
def fit (n:Int):Int × Int:=if -9223372036854775808≤n∧n<9223372036854775808 then (n,0) else (0,2)
theorem whole_signed_ev {u s:Int} (hu:U64 u) (hs:s=-1∨s=1∨(s=0∧u=0)):Ev (fun k=>whole_signed.f k u s) (fit (s*u)):=by
 obtain ⟨h0,h1⟩:=hu
 unfold whole_signed.f
 have neg:∀ (c:Bool),c=decide (u≤9223372036854775808)→s=-1→Ev (fun k=>whole_signed.j0 k u c) (fit (s*u)):=by
  rintro c rfl rfl
  refine Ev.step (f:=fun _=>some (fit (-1*u))) (fun k=>?_) (Ev.now _)
  simp only [whole_signed.j0]
  unfold fit
  by_cases h:u≤9223372036854775808
  ·rw [if_pos (by simpa using h),if_pos (by omega),IntKind.wrap_u64];congr 2;unfold wrap64;omega
  ·rw [if_neg (by simpa using h),if_neg (by omega),if_neg (by omega)]
 have pos:s*u=u→¬ s<0→Ev (fun k=>whole_signed.j0 k u false) (fit (s*u)):=by
  intro e _
  rw [e]
  refine Ev.step (f:=fun _=>some (fit u)) (fun k=>?_) (Ev.now _)
  simp only [whole_signed.j0]
  unfold fit
  rw [if_neg (by decide)]
  by_cases h:u≤9223372036854775807
  ·rw [if_pos h,if_pos (by omega),w64 (by omega) (by omega)]
  ·rw [if_neg h,if_neg (by omega)]
 rcases hs with rfl|rfl|⟨rfl,rfl⟩
 ·exact Ev.itep (by omega) (neg _ rfl rfl)
 ·exact Ev.iten (by omega) (pos (by omega) (by omega))
 ·exact Ev.iten (by omega) (pos (by omega) (by omega))
theorem Signed_ev {u:Int} {below:Bool} (hu:U64 u) (hb:below=true→u≠0∨True):Ev (fun k=>carrefourref01_Signed.f k u below) (fit (if below then -u else u)):=by
 obtain ⟨h0,h1⟩:=hu
 unfold carrefourref01_Signed.f
 have all:∀ c:Bool,(c=true→u=9223372036854775808∧below=true)→(c=false→u≠9223372036854775808∨below=false)→Ev (fun k=>carrefourref01_Signed.j0 k u below c) (fit (if below then -u else u)):=by
  intro c hc hc'
  refine Ev.step (f:=fun _=>some (fit (if below then -u else u))) (fun k=>?_) (Ev.now _)
  simp only [carrefourref01_Signed.j0]
  unfold fit
  cases c with
  | true =>
   obtain ⟨rfl,rfl⟩:=hc rfl
   decide
  | false =>
   have hc':=hc' rfl
   rw [if_neg (by decide)]
   cases below with
   | true =>
    simp only [if_true]
    by_cases h:u>9223372036854775807
    ·rw [if_pos h,if_neg (by simp at hc';omega)]
    ·rw [if_neg h,if_pos (by omega),w64 (x:=u) (by omega) (by omega),w64 (by omega) (by omega)]
   | false =>
    simp only [Bool.false_eq_true,if_false]
    by_cases h:u>9223372036854775807
    ·rw [if_pos h,if_neg (by omega)]
    ·rw [if_neg h,if_pos (by omega),w64 (x:=u) (by omega) (by omega)]
 by_cases h:u=9223372036854775808
 ·refine Ev.itep h (all below (fun hb=>⟨h,hb⟩) (fun hb=>.inr hb))
 ·refine Ev.iten h (all false (fun hb=>by cases hb) (fun _=>.inl h))
theorem bitLen_bd (x:Nat) (h0:x≠0) (h:x<2 ^ 64):1≤Lib.bitLen x∧Lib.bitLen x≤64∧2 ^ (Lib.bitLen x-1)≤x∧x<2 ^ Lib.bitLen x:=by
 have key:∀ n x:Nat,x<2 ^ n→x≠0→x<2 ^ 64→1≤Lib.bitLen x∧Lib.bitLen x≤n∧2 ^ (Lib.bitLen x-1)≤x∧x<2 ^ Lib.bitLen x:=by
  intro n
  induction n with
  | zero=>intro x h h0;simp at h;omega
  | succ n ih =>
   intro x h h0 h64
   rw [Lib.bitLen_half x h0 h64]
   by_cases h2:x / 2=0
   ·have:x=1:=by omega
    subst this
    have e0:Lib.bitLen (1 / 2)=0:=by decide
    rw [e0]
    exact ⟨by omega,by omega,by decide,by decide⟩
   ·obtain ⟨a,b,c,d⟩:=ih (x / 2) (by rw [Nat.pow_succ] at h;omega) h2 (by omega)
    refine ⟨by omega,by omega,?_,?_⟩
    ·have e:1+Lib.bitLen (x / 2)-1=(Lib.bitLen (x / 2)-1)+1:=by omega
     rw [e,Nat.pow_succ];omega
    ·rw [Nat.add_comm,Nat.pow_succ];omega
 exact key 64 x h h0 h
theorem shl_of {a:Int} {n:Nat} (hn:n≤64):shl .u64 a (n:Int)=a*2 ^ n % 18446744073709551616:=by
 unfold shl
 rw [IntKind.wrap_u64,Int.toNat_natCast]
 have:min n IntKind.u64.bits=n:=Nat.min_eq_left (by simp [IntKind.bits];omega)
 rw [this]
theorem shr_of {a:Int} {n:Nat} (hn:n≤64):shr .u64 a (n:Int)=a / 2 ^ n:=by
 unfold shr
 rw [Int.toNat_natCast]
 have:min n IntKind.u64.bits=n:=Nat.min_eq_left (by simp [IntKind.bits];omega)
 rw [this]
theorem fit_in {n:Int} (h:I64 n):fit n=(n,0):=by unfold I64 at h;unfold fit;rw [if_pos h]
theorem fit_out {n:Int} (h:¬ I64 n):fit n=(0,2):=by unfold I64 at h;unfold fit;rw [if_neg h]
end Go.Proofs.YtenphnkiacfmiaaDoor.Pure
