/- Quotients of rows of parts, and fractions in lowest terms: what the functions of package carrefourref02 come to.
   Conditions: as each theorem's head says. -/
import Derived.Test.YtenphnkiacfmiaaDoorP02r
namespace Go.Proofs.YtenphnkiacfmiaaDoor.Pure
set_option linter.unusedVariables false
open Go.RowKit Go.Proofs.YtenphnkiacfmiaaDoor.X Go.Proofs.YtenphnkiacfmiaaDoorW.PrintWords Go.Proofs.YtenphnkiacfmiaaDoorW.PrintLast Go.Proofs.YtenphnkiacfmiaaDoorW.PrintMore
theorem div_l0_eq (k:Nat) (x0:List Int) (x6:Int) (x7:List (List Int)) (x8:List Int):carrefourref02_divided.l0 (k+1) x0 x6 x7 x8=(carrefourref01_Order.f k x8 x0).bind fun t401=>(if t401≤0 then (if x7.length<5864062014805 then ((carrefourref02_twice.f k x8).bind fun t405=>(carrefourref02_divided.l0 k x0 x6 (x7++[x8]) t405)) else (none)) else (if (x7.length:Int)>64 then (some (0,false)) else (carrefourref02_divided.l1 k x0 x6 x7 (wrap64 ((x7.length:Int)-1))))):=by simp only [carrefourref02_divided.l0]
theorem div_l1_eq (k:Nat) (x0:List Int) (x6:Int) (x5:List (List Int)) (i:Nat) (h:i<x5.length) (h':i≤1000):carrefourref02_divided.l1 (k+1) x0 x6 x5 (i:Int)=(carrefourref01_Order.f k (x5.getD i []) x0).bind fun t409=>(if t409≤0 then ((carrefourref01_Minus.f k x0 (x5.getD i [])).bind fun t411=>((carrefourref02_trim.f k t411).bind fun t414=>(carrefourref02_divided.l1 k t414 (IntKind.u64.wrap ((IntKind.u64.wrap (x6*2))+1)) x5 ((i:Int)-1)))) else (carrefourref02_divided.l1 k x0 (IntKind.u64.wrap (x6*2)) x5 ((i:Int)-1))):=by
 have ew:wrap64 ((i:Int)-1)=(i:Int)-1:=w64 (by omega) (by omega)
 have er:rd_L20 x5 (i:Int)=x5.getD i []:=rfl
 simp only [carrefourref02_divided.l1,er,ew]
 rw [if_pos (by omega),if_pos (by omega),if_pos (by omega)]
theorem div_up {a:List Int} {A B q:Int} {L:Nat} (ha:Num a A) (hla:a.length≤40) (hB:1≤B) (hL:L≤40) (d:Nat):∀ (i:Nat) (l:List (List Int)) (t:List Int),Dbl l B L i→(i=0∨2 ^ (i-1)*B≤A)→Num t (2 ^ i*B)→t.length≤L+i→A<2 ^ (i+d)*B→i+d≤1000 →
  ∃ m l',Dbl l' B L m∧A<2 ^ m*B∧(m=0∨2 ^ (m-1)*B≤A)∧m≤1000∧(64<m→Ev (fun k=>carrefourref02_divided.l0 k a q l t) (0,false))∧(m≤64→∀ r,Ev (fun k=>carrefourref02_divided.l1 k a q l' ((m:Int)-1)) r→Ev (fun k=>carrefourref02_divided.l0 k a q l t) r):=by
 have stop:∀ (i:Nat) (l:List (List Int)) (t:List Int),Dbl l B L i→(i=0∨2 ^ (i-1)*B≤A)→Num t (2 ^ i*B)→t.length≤L+i→A<2 ^ i*B→i≤1000 →
   ∃ m l',Dbl l' B L m∧A<2 ^ m*B∧(m=0∨2 ^ (m-1)*B≤A)∧m≤1000∧(64<m→Ev (fun k=>carrefourref02_divided.l0 k a q l t) (0,false))∧(m≤64→∀ r,Ev (fun k=>carrefourref02_divided.l1 k a q l' ((m:Int)-1)) r→Ev (fun k=>carrefourref02_divided.l0 k a q l t) r):=by
  intro i l t hd hlow ht hl hA hi
  have ho:=order_ev ht ha (by omega) (by omega)
  refine ⟨i,l,hd,hA,hlow,hi,fun h=>?_,fun h r hr=>?_⟩
  ·exact Ev.step (fun k=>div_l0_eq k _ _ _ _) (Ev.bind ho (Ev.iten (by rw [sgn_le];omega) (Ev.itep (by rw [hd.len];omega) (Ev.now _))))
  ·refine Ev.step (fun k=>div_l0_eq k _ _ _ _) (Ev.bind ho (Ev.iten (by rw [sgn_le];omega) (Ev.iten (by rw [hd.len];omega) ?_)))
   rw [hd.len,w64 (by omega) (by omega)]
   exact hr
 induction d with
 | zero =>
  intro i l t hd hlow ht hl hA hi
  exact stop i l t hd hlow ht hl hA (by omega)
 | succ d ih =>
  intro i l t hd hlow ht hl hA hi
  by_cases c:2 ^ i*B≤A
  ·obtain ⟨t2,h2,n2,l2⟩:=twice_ev ht (by omega)
   rw [dbl_two] at n2
   obtain ⟨m,l',hd',hA',hlow',hm,hr0,hr⟩:=ih (i+1) (l++[t]) t2 (hd.snoc ht hl) (.inr (by rw [Nat.add_sub_cancel];exact c)) n2 (by omega) (by rw [Nat.add_right_comm];exact hA) (by omega)
   have go:∀ r,Ev (fun k=>carrefourref02_divided.l0 k a q (l++[t]) t2) r→Ev (fun k=>carrefourref02_divided.l0 k a q l t) r:=fun r h =>
    Ev.step (fun k=>div_l0_eq k _ _ _ _) (Ev.bind (order_ev ht ha (by omega) (by omega)) (Ev.itep (by rw [sgn_le];exact c) (Ev.itep (by rw [hd.len];omega) (Ev.bind h2 h))))
   exact ⟨m,l',hd',hA',hlow',hm,fun h=>go _ (hr0 h),fun h r k=>go _ (hr h r k)⟩
  ·exact stop i l t hd hlow ht hl (by omega) (by omega)
theorem div_down {B:Int} {L:Nat} {l:List (List Int)} {m:Nat} (hB:1≤B) (hL:L≤40) (hm:m≤64) (hd:Dbl l B L m) {Q:Int} (hQ:Q<18446744073709551616) (i:Nat):i≤m→∀ (a:List Int) (A q:Int),Num a A→a.length≤40→A<2 ^ i*B→0≤q→q*2 ^ i+A / B=Q →
  Ev (fun k=>carrefourref02_divided.l1 k a q l ((i:Int)-1)) (Q,true):=by
 induction i with
 | zero =>
  intro hi a A q ha hla hA hq hQe
  rw [Int.pow_zero,Int.one_mul] at hA
  rw [Int.ediv_eq_zero_of_lt ha.bd hA,Int.pow_zero,Int.mul_one,Int.add_zero] at hQe
  subst hQe
  refine Ev.step (f:=fun _=>some (q,true)) (fun k=>?_) (Ev.now _)
  simp only [carrefourref02_divided.l1]
  rw [if_neg (by omega)]
 | succ i ih =>
  intro hi a A q ha hla hA hq hQe
  have e:((i+1:Nat):Int)-1=(i:Int):=by omega
  obtain ⟨ni,li⟩:=hd.num i (by omega)
  have ho:=order_ev ni ha (by omega) (by omega)
  have p0:(1:Int)≤2 ^ i:=by have:(0:Int)<2 ^ i:=Int.pow_pos (by decide);omega
  have e2:q*2 ^ (i+1)=q*2*2 ^ i:=by rw [Int.pow_succ,Int.mul_comm (2 ^ i) 2,← Int.mul_assoc]
  have hA0:=ha.bd
  have hAB:0≤A / B:=Int.ediv_nonneg hA0 (by omega)
  have hle:q*2≤q*2*2 ^ i:=by
   have:=Int.mul_le_mul_of_nonneg_left p0 (show 0≤q*2 by omega)
   omega
  have hq2:IntKind.u64.wrap (q*2)=q*2:=u64w (by omega) (by omega)
  rw [e]
  by_cases c:2 ^ i*B≤A
  ·obtain ⟨s,hs,ns,ls⟩:=minus_ev ha ni (by omega) c
   obtain ⟨u,hu,nu,lu⟩:=trim_ev ns (by omega)
   have ed:(A-2 ^ i*B) / B=A / B-2 ^ i:=by rw [Int.sub_eq_add_neg,← Int.neg_mul,Int.add_mul_ediv_right _ _ (by omega)];omega
   have hd0:0≤(A-2 ^ i*B) / B:=Int.ediv_nonneg (by omega) (by omega)
   have hQ2:(q*2+1)*2 ^ i+(A-2 ^ i*B) / B=Q:=by rw [Int.add_mul,Int.one_mul,ed];omega
   have hle1:q*2+1≤(q*2+1)*2 ^ i:=by
    have:=Int.mul_le_mul_of_nonneg_left p0 (show 0≤q*2+1 by omega)
    omega
   have hih:=ih (by omega) u _ (q*2+1) nu (by omega) (by rw [← dbl_two] at hA;omega) (by omega) hQ2
   have hq3:IntKind.u64.wrap (IntKind.u64.wrap (q*2)+1)=q*2+1:=by rw [hq2,u64w (by omega) (by omega)]
   refine Ev.step (fun k=>div_l1_eq k _ _ _ i (by rw [hd.len];omega) (by omega)) (Ev.bind ho (Ev.itep (by rw [sgn_le];exact c) (Ev.bind hs (Ev.bind hu ?_))))
   rw [hq3]
   exact hih
  ·have hih:=ih (by omega) a A (q*2) ha hla (by omega) (by omega) (by omega)
   refine Ev.step (fun k=>div_l1_eq k _ _ _ i (by rw [hd.len];omega) (by omega)) (Ev.bind ho (Ev.iten (by rw [sgn_le];exact c) ?_))
   rw [hq2]
   exact hih
theorem two64:(2:Int) ^ 64=18446744073709551616:=rfl
theorem div_ev {a b:List Int} {A B:Int} (ha:Num a A) (hb:Num b B) (hla:a.length≤40) (hlb:b.length≤40) (hB:1≤B) :
  Ev (fun k=>carrefourref02_divided.f k a b) (if A / B<18446744073709551616 then (A / B,true) else (0,false)):=by
 obtain ⟨m,l,hd,hA,hlow,hm,h0,h1⟩:=div_up (q:=0) ha hla hB hlb 640 0 [] b (dbl_nil B b.length) (.inl rfl) (by rw [Int.pow_zero,Int.one_mul];exact hb) (by omega) (num_small ha hla hB) (by omega)
 have hA0:=ha.bd
 by_cases c:m≤64
 ·have hlt:A / B<18446744073709551616:=by
   refine Int.ediv_lt_of_lt_mul (by omega) (Int.lt_of_lt_of_le hA ?_)
   have h3:(2:Int) ^ m≤18446744073709551616:=two64▸pow_le_int c
   exact Int.mul_le_mul_of_nonneg_right h3 (by omega)
  rw [if_pos hlt]
  exact h1 c _ (div_down hB hlb c hd hlt m (Nat.le_refl _) a A 0 ha hla hA (by omega) (by omega))
 ·have hge:¬ A / B<18446744073709551616:=by
   intro h
   rcases hlow with h2|h2
   ·omega
   ·have h4:(18446744073709551616:Int)≤2 ^ (m-1):=two64▸pow_le_int (show 64≤m-1 by omega)
    have h5:18446744073709551616*B≤2 ^ (m-1)*B:=Int.mul_le_mul_of_nonneg_right h4 (by omega)
    have h6:18446744073709551616≤A / B:=Int.le_ediv_of_mul_le (by omega) (by omega)
    omega
  rw [if_neg hge]
  exact h0 (by omega)
theorem made_ev (u v:Nat) (hu:u<18446744073709551616) (hv:v<18446744073709551616) (s:Bool) :
  Ev (fun k=>carrefourref02_made.f k (u:Int) (v:Int) s) (if u<(if s=true then 9223372036854775809 else 9223372036854775808)∧v<9223372036854775808 then (if s=true then -(u:Int) else (u:Int),(v:Int),0) else (0,0,2)):=by
 unfold carrefourref02_made.f
 refine Ev.bind (Signed_ev (u:=(u:Int)) (below:=s) ⟨by omega,by omega⟩ (fun _=>.inr trivial)) (Ev.bind (Signed_ev (u:=(v:Int)) (below:=false) ⟨by omega,by omega⟩ (fun h=>by cases h)) ?_)
 have e2:(if false=true then -(v:Int) else (v:Int))=(v:Int):=if_neg Bool.false_ne_true
 rw [e2]
 by_cases h1:I64 (if s=true then -(u:Int) else (u:Int))
 ·have h1':u<(if s=true then 9223372036854775809 else 9223372036854775808):=by
   obtain ⟨x,y⟩:=h1
   by_cases hs:s=true
   ·rw [if_pos hs] at x ⊢;omega
   ·rw [if_neg hs] at y ⊢;omega
  rw [fit_in h1]
  by_cases h2:v<9223372036854775808
  ·have H:u<(if s=true then 9223372036854775809 else 9223372036854775808)∧v<9223372036854775808:=⟨h1',h2⟩
   rw [if_pos H,fit_in ⟨by omega,by omega⟩]
   exact Ev.itep rfl (Ev.itep rfl (Ev.now _))
  ·have H:¬ (u<(if s=true then 9223372036854775809 else 9223372036854775808)∧v<9223372036854775808):=fun h=>h2 h.2
   rw [if_neg H,fit_out (fun h=>by obtain ⟨_,y⟩:=h;omega)]
   exact Ev.itep rfl (Ev.iten (by decide) (Ev.now _))
 ·have H:¬ (u<(if s=true then 9223372036854775809 else 9223372036854775808)∧v<9223372036854775808):=by
   rintro ⟨h,_⟩
   apply h1
   by_cases hs:s=true
   ·rw [if_pos hs] at h ⊢;exact ⟨by omega,by omega⟩
   ·rw [if_neg hs] at h ⊢;exact ⟨by omega,by omega⟩
  rw [if_neg H,fit_out h1]
  exact Ev.iten (by decide) (Ev.now _)
theorem low_l0_eq (k:Nat) (x0 x1:List Int) (x2:Bool) (x8 x9:List Int):carrefourref02_lowest.l0 (k+1) x0 x1 x2 x8 x9=(carrefourref01_Order.f k x9 ([]:List Int)).bind fun t418=>(if t418=0 then ((carrefourref02_divided.f k x0 x8).bind fun bt422=>((carrefourref02_divided.f k x1 x8).bind fun bt424=>(if bt422.2=true then (if bt424.2=true then (if x2=true then ((carrefourref02_made.f k bt422.1 bt424.1 (bt422.1 != 0)).bind fun bt426=>(some (bt426.1,bt426.2.1,bt426.2.2))) else ((carrefourref02_made.f k bt422.1 bt424.1 false).bind fun bt429=>(some (bt429.1,bt429.2.1,bt429.2.2)))) else (some (0,0,2))) else (some (0,0,2))))) else ((carrefourref02_rest.f k x8 x9).bind fun t419=>(carrefourref02_lowest.l0 k x0 x1 x2 x9 t419))):=by simp only [carrefourref02_lowest.l0]
theorem num_nil:Num [] 0:=⟨Good.nil,rfl⟩
theorem low_end {n d:List Int} {N D G:Nat} (hn:Num n N) (hd:Num d D) (hln:n.length≤40) (hld:d.length≤40) (s:Bool) (hD:D≠0) {x9 x8:List Int} (h9:Num x9 0) (h8:Num x8 G) (l9:x9.length≤40) (l8:x8.length≤40) (hG:G=Nat.gcd N D) :
  Ev (fun k=>carrefourref02_lowest.l0 k n d s x8 x9) (lowF N D s):=by
 have hG0:1≤G:=by rw [hG];exact Nat.gcd_pos_of_pos_right _ (by omega)
 refine Ev.step (fun k=>low_l0_eq k _ _ _ _ _) (Ev.bind (order_ev h9 num_nil (by omega) (by simp)) (Ev.itep rfl (Ev.bind (div_ev hn h8 hln l8 (by omega)) (Ev.bind (div_ev hd h8 hld l8 (by omega)) ?_))))
 have en:(N:Int) / (G:Int)=((N / G:Nat):Int):=by push_cast;rfl
 have ed:(D:Int) / (G:Int)=((D / G:Nat):Int):=by push_cast;rfl
 rw [en,ed]
 unfold lowF
 rw [← hG]
 generalize N / G=u
 generalize D / G=v
 by_cases hu:u<18446744073709551616
 ·rw [if_pos (show ((u:Nat):Int)<18446744073709551616 by omega)]
  refine Ev.itep rfl ?_
  by_cases hv:v<18446744073709551616
  ·rw [if_pos (show ((v:Nat):Int)<18446744073709551616 by omega)]
   refine Ev.itep rfl ?_
   cases s with
   | false=>exact Ev.iten Bool.false_ne_true (Ev.bind (made_ev u v hu hv false) (Ev.now _))
   | true =>
    refine Ev.itep rfl (Ev.bind (made_ev u v hu hv _) ?_)
    by_cases h0:u=0
    ·subst h0
     have e:(((0:Nat):Int) != 0)=false:=by decide
     rw [e]
     by_cases hv2:v<9223372036854775808
     ·simp [hv2];exact Ev.now _
     ·simp [hv2];exact Ev.now _
    ·have e:(((u:Nat):Int) != 0)=true:=by simp;omega
     rw [e]
     exact Ev.now _
  ·have H:¬ (u<(if s=true then 9223372036854775809 else 9223372036854775808)∧v<9223372036854775808):=fun h=>by have:=h.2;omega
   rw [if_neg (show ¬ ((v:Nat):Int)<18446744073709551616 by omega),if_neg H]
   exact Ev.iten Bool.false_ne_true (Ev.now _)
 ·have H:¬ (u<(if s=true then 9223372036854775809 else 9223372036854775808)∧v<9223372036854775808):=fun h=>by have:=h.1;revert this;split<;>omega
  rw [if_neg (show ¬ ((u:Nat):Int)<18446744073709551616 by omega),if_neg H]
  exact Ev.iten Bool.false_ne_true (Ev.now _)
theorem low_loop {n d:List Int} {N D:Nat} (hn:Num n N) (hd:Num d D) (hln:n.length≤40) (hld:d.length≤40) (s:Bool) (hD:D≠0) (c:Nat):∀ (P Q:Nat) (x8 x9:List Int),Q≤c→Num x8 P→Num x9 Q→x8.length≤40→x9.length≤40→Nat.gcd P Q=Nat.gcd N D →
  Ev (fun k=>carrefourref02_lowest.l0 k n d s x8 x9) (lowF N D s):=by
 induction c with
 | zero =>
  intro P Q x8 x9 hQ h8 h9 l8 l9 hg
  obtain rfl:Q=0:=by omega
  rw [Nat.gcd_zero_right] at hg
  exact low_end hn hd hln hld s hD h9 h8 l9 l8 hg
 | succ c ih =>
  intro P Q x8 x9 hQ h8 h9 l8 l9 hg
  by_cases h0:Q=0
  ·subst h0
   rw [Nat.gcd_zero_right] at hg
   exact low_end hn hd hln hld s hD h9 h8 l9 l8 hg
  ·obtain ⟨r,hr,nr,lr⟩:=rest_ev h8 h9 l8 l9 (by omega)
   have e:(P:Int) % (Q:Int)=((P % Q:Nat):Int):=by push_cast;rfl
   rw [e] at nr
   have hlt:P % Q<Q:=Nat.mod_lt _ (by omega)
   refine Ev.step (fun k=>low_l0_eq k _ _ _ _ _) (Ev.bind (order_ev h9 num_nil (by omega) (by simp)) (Ev.iten (by unfold sgn;rw [if_neg (by omega),if_pos (by omega)];decide) (Ev.bind hr (ih Q (P % Q) x9 r (by omega) h9 nr l9 (by omega) ?_))))
   rw [← hg,Nat.gcd_comm P Q]
   exact (Nat.gcd_rec Q P).symm▸(Nat.gcd_comm _ _)
theorem lowest_ev {n d:List Int} {N D:Nat} (hn:Num n N) (hd:Num d D) (hln:n.length≤40) (hld:d.length≤40) (s:Bool) (hD:D≠0):Ev (fun k=>carrefourref02_lowest.f k n d s) (lowF N D s) :=
 low_loop hn hd hln hld s hD D N D n d (Nat.le_refl _) hn hd hln hld rfl
end Go.Proofs.YtenphnkiacfmiaaDoor.Pure
