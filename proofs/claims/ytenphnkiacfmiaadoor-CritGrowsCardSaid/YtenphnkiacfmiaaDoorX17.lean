/- Walks: each '.calls' says that the Go function comes to what its Lean function tells. Conditions: as each theorem's head says. -/
import Derived.Test.YtenphnkiacfmiaaDoorXD
import Derived.Test.YtenphnkiacfmiaaDoorX0
namespace Go.Proofs.YtenphnkiacfmiaaDoor.X
open Go.RowKit Go.Proofs.YtenphnkiacfmiaaDoorW.PrintWords Go.Proofs.YtenphnkiacfmiaaDoorW.PrintLast Go.Proofs.YtenphnkiacfmiaaDoorW.PrintMore
attribute [local go_sem] max2_int min2_int max_two min_two max_three min_three max_four min_four
set_option linter.unusedVariables false
set_option maxHeartbeats 8000000
set_option maxRecDepth 100000
set_option linter.unusedSimpArgs false
theorem carrefourref01_Size.calls (a0:Int) (r:Int) (w:World) (h:carrefourref01_Size.f a0=some r) :
  Calls Tryd.prog 30 #[.int .i64 a0] w fun e w'=>e=.returned (.int .u64 r)∧Drawn0 w w':=by
 have H:(if a0<0 then (some (IntKind.u64.wrap (-(IntKind.u64.wrap (a0))))) else (some (IntKind.u64.wrap (a0))))=some r:=h
 clear h
 by_cases c2:a0<0;{
 rw [if_pos c2] at H
 have c0:decide (a0<0)=true:=decide_eq_true c2
 clear c2
 obtain rfl:=Option.some.inj H
 go_enter Tryd.func30,Tryd.ntmps30
 go_wp2
 go_ret
 exact ⟨aq,dr⟩};{
 rw [if_neg c2] at H
 have c0:decide (a0<0)=false:=decide_eq_false c2
 clear c2
 obtain rfl:=Option.some.inj H
 go_enter Tryd.func30,Tryd.ntmps30
 go_wp2
 go_ret
 exact ⟨aq,dr⟩}
theorem carrefourref02_gcd.calls (k:Nat) (a0:Int) (a1:Int) (r:Int) (w:World) (h:carrefourref02_gcd.f k a0 a1=some r) :
  Calls Tryd.prog 35 #[.int .u64 a0,.int .u64 a1] w fun e w'=>e=.returned (.int .u64 r)∧Drawn0 w w':=by
 have H:(carrefourref02_gcd.l0 k a0 a1)=some r:=h
 clear h
 have H':=am H
 clear H
 go_enter Tryd.func35,Tryd.ntmps35
 go_wp2
 go_loopg [0,1] k (fun kq v0 v1 w'=>∃ (x0:Int) (x1:Int),v0=.int .u64 x0∧v1=.int .u64 x1∧Aside0 (carrefourref02_gcd.l0 kq x0 x1=some r)∧Aside0 (kq≤k)∧Drawn0 w w')
 case atStart=>exact ⟨(a0),(a1),(aq),(aq),H',⟨Nat.le_refl _⟩,dr⟩
 case round =>skip;{
 clear H'
 (try clear p2)
 obtain ⟨x0,x1,rfl,rfl,HA,HK1,⟨m1,rfl⟩⟩:=hrel
 cases gk with
 | zero=>exact absurd HA.out (by simp [carrefourref02_gcd.l0])
 | succ k1 =>skip;{
 have H:=HA.out
 clear HA
 simp only [carrefourref02_gcd.l0] at H
 by_cases c3:x1=0;{
 rw [if_pos c3] at H
 have c0:(x1==0)=true:=beq_iff_eq.mpr c3
 have c1:(x1 != 0)=false:=bne_eq_false_iff_eq.mpr c3
 clear c3
 obtain rfl:=Option.some.inj H
 go_wp2
 go_ret
 exact ⟨aq,dr⟩};{
 rw [if_neg c3] at H
 have c0:(x1==0)=false:=beq_eq_false_iff_ne.mpr c3
 have c1:(x1 != 0)=true:=bne_iff_ne.mpr c3
 have H':=am H
 clear H
 go_wp2
 go_roundg k1
 case measure=>have:=HK1.out;omega
 case rel=>exact ⟨(x1),(Int.tmod x0 x1),(aq),(aq),H',⟨by have:=HK1.out;omega⟩,dr⟩}}}
theorem carrefourref01_Signed.calls (k:Nat) (a0:Int) (a1:Bool) (r1:Int) (r2:Int) (w:World) (h:carrefourref01_Signed.f k a0 a1=some (r1,r2)) :
  Calls Tryd.prog 54 #[.int .u64 a0,.bool a1] w fun e w'=>e=.returned (.tuple #[.int .i64 r1,.int .i64 r2])∧Drawn0 w w':=by
 have H:(if a0=9223372036854775808 then (carrefourref01_Signed.j0 k a0 a1 a1) else (carrefourref01_Signed.j0 k a0 a1 false))=some (r1,r2):=h
 clear h
 have HC3:=am H
 clear H
 go_enter Tryd.func54,Tryd.ntmps54
 go_upto_region 1 with (fail)
 go_cut [10] (fun v0 wc=>∃ (kq:Nat) (x0:Bool),v0=.bool x0∧Aside0 (carrefourref01_Signed.j0 kq a0 a1 x0=some (r1,r2))∧Aside0 (kq≤k)∧Drawn0 w wc)
 case first =>skip;{
 have H:=HC3.out
 clear HC3
 by_cases c4:a0=9223372036854775808;{
 rw [if_pos c4] at H
 have c0:(a0==9223372036854775808)=true:=beq_iff_eq.mpr c4
 have c1:(a0 != 9223372036854775808)=false:=bne_eq_false_iff_eq.mpr c4
 clear c4
 (first|rw [c0]|(simp only [i64_w,i32_w];rw [c0])|skip)
 have H':=am H
 clear H
 go_wp2
 go_meet
 case rel=>exact ⟨_,(a1),(aq),H',⟨by first|omega|exact Nat.le_refl _⟩,dr⟩};{
 rw [if_neg c4] at H
 have c0:(a0==9223372036854775808)=false:=beq_eq_false_iff_ne.mpr c4
 have c1:(a0 != 9223372036854775808)=true:=bne_iff_ne.mpr c4
 (first|rw [c0]|(simp only [i64_w,i32_w];rw [c0])|skip)
 have H':=am H
 clear H
 go_wp2
 go_meet
 case rel=>exact ⟨_,(false),(aq),H',⟨by first|omega|exact Nat.le_refl _⟩,dr⟩}}
 case rest =>skip;{
 clear HC3
 (try clear p2);(try clear c4);(try clear c0);(try clear c1)
 obtain ⟨kq,x0,rfl,HA,HJ2,⟨mc2,rfl⟩⟩:=hcut
 cases kq with
 | zero=>exact absurd HA.out (by simp [carrefourref01_Signed.j0])
 | succ kj2 =>skip;{
 have H:=HA.out
 clear HA
 simp only [carrefourref01_Signed.j0] at H
 by_cases c5:x0=true;{
 subst c5
 have H1:(some ((-9223372036854775808),0))=some (r1,r2):=by rw [if_pos rfl] at H;exact H
 clear H
 have H:=H1
 clear H1
 simp only [Option.some.injEq,Prod.mk.injEq] at H
 obtain ⟨rfl,rfl⟩:=H
 go_wp2
 go_ret2
 exact ⟨aq,dr⟩};{
 replace c5:=Bool.eq_false_iff.mpr c5
 subst c5
 have H1:(if a0>9223372036854775807 then (some (0,2)) else (if a1=true then (some (wrap64 (-(wrap64 (a0))),0)) else (some (wrap64 (a0),0))))=some (r1,r2):=by rw [if_neg (show ¬ (false=true) by decide)] at H;exact H
 clear H
 have H:=H1
 clear H1
 by_cases c6:a0>9223372036854775807;{
 rw [if_pos c6] at H
 have c2:decide (9223372036854775807<a0)=true:=decide_eq_true c6
 clear c6
 simp only [Option.some.injEq,Prod.mk.injEq] at H
 obtain ⟨rfl,rfl⟩:=H
 go_wp2
 go_ret2
 exact ⟨aq,dr⟩};{
 rw [if_neg c6] at H
 have c2:decide (9223372036854775807<a0)=false:=decide_eq_false c6
 clear c6
 by_cases c7:a1=true;{
 subst c7
 have H1:(some (wrap64 (-(wrap64 (a0))),0))=some (r1,r2):=by rw [if_pos rfl] at H;exact H
 clear H
 have H:=H1
 clear H1
 simp only [Option.some.injEq,Prod.mk.injEq] at H
 obtain ⟨rfl,rfl⟩:=H
 go_wp2
 go_ret2
 exact ⟨aq,dr⟩};{
 replace c7:=Bool.eq_false_iff.mpr c7
 subst c7
 have H1:(some (wrap64 (a0),0))=some (r1,r2):=by rw [if_neg (show ¬ (false=true) by decide)] at H;exact H
 clear H
 have H:=H1
 clear H1
 simp only [Option.some.injEq,Prod.mk.injEq] at H
 obtain ⟨rfl,rfl⟩:=H
 go_wp2
 go_ret2
 exact ⟨aq,dr⟩}}}}}
theorem carrefourref02_made.calls (k:Nat) (a0:Int) (a1:Int) (a2:Bool) (r1:Int) (r2:Int) (r3:Int) (w:World) (h:carrefourref02_made.f k a0 a1 a2=some (r1,r2,r3)) :
  Calls Tryd.prog 44 #[.int .u64 a0,.int .u64 a1,.bool a2] w fun e w'=>e=.returned (.tuple #[.agg #[.int .i64 r1,.int .i64 r2],.int .i64 r3])∧Below w.heap.size w w':=by
 have hu0:=Tryd.underlying36
 have HB:=am (Below.refl w.heap.size w)
 have H:((carrefourref01_Signed.f k a0 a2).bind fun bt0=>((carrefourref01_Signed.f k a1 false).bind fun bt1=>(if bt0.2=0 then (if bt1.2=0 then (some (bt0.1,bt1.1,0)) else (some (0,0,2))) else (some (0,0,2)))))=some (r1,r2,r3):=h
 clear h
 replace H:=bi_ H;obtain ⟨⟨t0,t1⟩,A4,H⟩:=H
 (try dsimp only at H)
 replace H:=bi_ H;obtain ⟨⟨t2,t3⟩,A5,H⟩:=H
 (try dsimp only at H)
 by_cases c6:t1=0;{
 rw [if_pos c6] at H
 have c0:(t1==0)=true:=beq_iff_eq.mpr c6
 have c1:(t1 != 0)=false:=bne_eq_false_iff_eq.mpr c6
 clear c6
 by_cases c7:t3=0;{
 rw [if_pos c7] at H
 have c2:(t3==0)=true:=beq_iff_eq.mpr c7
 have c3:(t3 != 0)=false:=bne_eq_false_iff_eq.mpr c7
 clear c7
 simp only [Option.some.injEq,Prod.mk.injEq] at H
 obtain ⟨rfl,rfl,rfl⟩:=H
 go_enter Tryd.func44,Tryd.ntmps44
 go_wp2_with (first|((with_reducible refine gd 6 rfl ?_);refine bx_ 6 36 #[.int .i64 0,.int .i64 0] rfl rfl ?_;intro gb0 hg w8 BK0 hb;have GE0:=bz HB hg;replace HB:=bs HB hb;clear hb hg)|((with_reducible refine gc 54 rfl ?_);refine gm_ (some 15) rfl rfl Tryd.func54 (carrefourref01_Signed.calls _ _ _ _ _ _ A4.out) ag ?_;rintro w' ⟨nd,rfl⟩;(try (rw [drewN_self w8];generalize hq_:World.drewN w8 _=w8;have n0:Aside0 (w8.heap[gb0]?=some (.cells #[.int .i64 0,.int .i64 0] 36 (0,0))):=⟨by rw [← hq_];exact (bx BK0)⟩;have n1:Aside0 (Below w.heap.size w w8):=⟨by rw [← hq_];exact (bf HB)⟩;clear BK0 HB hq_;have BK0:=n0;have HB:=n1;clear n0 n1)))|((with_reducible refine gc 54 rfl ?_);refine gm_ (some 20) rfl rfl Tryd.func54 (carrefourref01_Signed.calls _ _ _ _ _ _ A5.out) ag ?_;rintro w' ⟨nd,rfl⟩;(try (rw [drewN_self w8];generalize hq_:World.drewN w8 _=w8;have n0:Aside0 (w8.heap[gb0]?=some (.cells #[.int .i64 0,.int .i64 0] 36 (0,0))):=⟨by rw [← hq_];exact (bx BK0)⟩;have n1:Aside0 (Below w.heap.size w w8):=⟨by rw [← hq_];exact (bf HB)⟩;clear BK0 HB hq_;have BK0:=n0;have HB:=n1;clear n0 n1));have hcz9:=X.k2 BK0))
 refine bodyPost_ret (results_ct rfl _ _ gb0 36 #[.int .i64 t0,.int .i64 t2] (0,0) _ rfl (br_ BK0) Tryd.underlying36 rfl (by kernel_rfl)) rfl ?_
 exact ⟨ae,bf HB⟩};{
 rw [if_neg c7] at H
 have c2:(t3==0)=false:=beq_eq_false_iff_ne.mpr c7
 have c3:(t3 != 0)=true:=bne_iff_ne.mpr c7
 simp only [Option.some.injEq,Prod.mk.injEq] at H
 obtain ⟨rfl,rfl,rfl⟩:=H
 go_enter Tryd.func44,Tryd.ntmps44
 go_wp2_with (first|((with_reducible refine gd 6 rfl ?_);refine bx_ 6 36 #[.int .i64 0,.int .i64 0] rfl rfl ?_;intro gb0 hg w0 BK0 hb;have GE0:=bz HB hg;replace HB:=bs HB hb;clear hb hg)|((with_reducible refine gc 54 rfl ?_);refine gm_ (some 15) rfl rfl Tryd.func54 (carrefourref01_Signed.calls _ _ _ _ _ _ A4.out) ag ?_;rintro w' ⟨nd,rfl⟩;(try (rw [drewN_self w0];generalize hq_:World.drewN w0 _=w0;have n0:Aside0 (w0.heap[gb0]?=some (.cells #[.int .i64 0,.int .i64 0] 36 (0,0))):=⟨by rw [← hq_];exact (bx BK0)⟩;have n1:Aside0 (Below w.heap.size w w0):=⟨by rw [← hq_];exact (bf HB)⟩;clear BK0 HB hq_;have BK0:=n0;have HB:=n1;clear n0 n1)))|((with_reducible refine gc 54 rfl ?_);refine gm_ (some 20) rfl rfl Tryd.func54 (carrefourref01_Signed.calls _ _ _ _ _ _ A5.out) ag ?_;rintro w' ⟨nd,rfl⟩;(try (rw [drewN_self w0];generalize hq_:World.drewN w0 _=w0;have n0:Aside0 (w0.heap[gb0]?=some (.cells #[.int .i64 0,.int .i64 0] 36 (0,0))):=⟨by rw [← hq_];exact (bx BK0)⟩;have n1:Aside0 (Below w.heap.size w w0):=⟨by rw [← hq_];exact (bf HB)⟩;clear BK0 HB hq_;have BK0:=n0;have HB:=n1;clear n0 n1));have hcz0:=X.k2 BK0))
 refine bodyPost_ret (results_ct rfl _ _ gb0 36 #[.int .i64 0,.int .i64 0] (0,0) _ rfl (br_ BK0) Tryd.underlying36 rfl (by kernel_rfl)) rfl ?_
 exact ⟨ae,bf HB⟩}};{
 rw [if_neg c6] at H
 have c0:(t1==0)=false:=beq_eq_false_iff_ne.mpr c6
 have c1:(t1 != 0)=true:=bne_iff_ne.mpr c6
 simp only [Option.some.injEq,Prod.mk.injEq] at H
 obtain ⟨rfl,rfl,rfl⟩:=H
 go_enter Tryd.func44,Tryd.ntmps44
 go_wp2_with (first|((with_reducible refine gd 6 rfl ?_);refine bx_ 6 36 #[.int .i64 0,.int .i64 0] rfl rfl ?_;intro gb0 hg w1 BK0 hb;have GE0:=bz HB hg;replace HB:=bs HB hb;clear hb hg)|((with_reducible refine gc 54 rfl ?_);refine gm_ (some 15) rfl rfl Tryd.func54 (carrefourref01_Signed.calls _ _ _ _ _ _ A4.out) ag ?_;rintro w' ⟨nd,rfl⟩;(try (rw [drewN_self w1];generalize hq_:World.drewN w1 _=w1;have n0:Aside0 (w1.heap[gb0]?=some (.cells #[.int .i64 0,.int .i64 0] 36 (0,0))):=⟨by rw [← hq_];exact (bx BK0)⟩;have n1:Aside0 (Below w.heap.size w w1):=⟨by rw [← hq_];exact (bf HB)⟩;clear BK0 HB hq_;have BK0:=n0;have HB:=n1;clear n0 n1)))|((with_reducible refine gc 54 rfl ?_);refine gm_ (some 20) rfl rfl Tryd.func54 (carrefourref01_Signed.calls _ _ _ _ _ _ A5.out) ag ?_;rintro w' ⟨nd,rfl⟩;(try (rw [drewN_self w1];generalize hq_:World.drewN w1 _=w1;have n0:Aside0 (w1.heap[gb0]?=some (.cells #[.int .i64 0,.int .i64 0] 36 (0,0))):=⟨by rw [← hq_];exact (bx BK0)⟩;have n1:Aside0 (Below w.heap.size w w1):=⟨by rw [← hq_];exact (bf HB)⟩;clear BK0 HB hq_;have BK0:=n0;have HB:=n1;clear n0 n1));have hcz1:=X.k2 BK0))
 refine bodyPost_ret (results_ct rfl _ _ gb0 36 #[.int .i64 0,.int .i64 0] (0,0) _ rfl (br_ BK0) Tryd.underlying36 rfl (by kernel_rfl)) rfl ?_
 exact ⟨ae,bf HB⟩}
def carrefourref02_Of.T6:Bool × List (List Nat × List Nat):=(true,[([],[]),([],[]),([0,1],[0,1]),([],[]),([],[]),([3,4],[3,4]),([],[]),([6],[6]),([7],[7]),([8],[8]),([9,8],[8,9]),([8],[8]),([11,8],[8,11]),([10,12,8],[8,10,12]),([8,13],[8,13]),([2,5,14,8],[2,5,14]),([15],[15]),([15],[15]),([16,15,0,1,2,3,4,5,6,7,8,9,10,11,12,13,14,15,16,17],[16]),([17,18,0,1,2,3,4,5,6,7,8,9,10,11,12,13,14,15,16,17,18],[17])])
def carrefourref02_Of.B6:List Nat:=[0,0,3,0,0,24,0,64,192,448,960,448,2496,8128,16320,32767,65535,65535,262143,524287]
theorem carrefourref02_Of.tab6:rtab .any (opsOf Tryd.f27 6)=carrefourref02_Of.T6:=by kernel_rfl
theorem carrefourref02_Of.bits6:waitsOk carrefourref02_Of.T6.2 carrefourref02_Of.B6=true:=by kernel_rfl
theorem carrefourref02_Of.calls (k:Nat) (a0:Int) (a1:Int) (r1:Int) (r2:Int) (r3:Int) (w:World) (h:carrefourref02_Of.f k a0 a1=some (r1,r2,r3)) :
  Calls Tryd.prog 27 #[.int .i64 a0,.int .i64 a1] w fun e w'=>e=.returned (.tuple #[.agg #[.int .i64 r1,.int .i64 r2],.int .i64 r3])∧Below w.heap.size w w':=by
 have hu0:=Tryd.underlying36
 have HB:=am (Below.refl w.heap.size w)
 have H:(if a1=0 then (some (0,0,3)) else ((carrefourref01_Size.f a0).bind fun t0=>((carrefourref01_Size.f a1).bind fun t1=>((carrefourref02_gcd.f k t0 t1).bind fun t2=>(if t2=0 then (none) else (if a0=0 then ((carrefourref02_made.f k (IntKind.u64.wrap (Int.tdiv t0 t2)) (IntKind.u64.wrap (Int.tdiv t1 t2)) false).bind fun bt0=>(some (bt0.1,bt0.2.1,bt0.2.2))) else ((carrefourref02_made.f k (IntKind.u64.wrap (Int.tdiv t0 t2)) (IntKind.u64.wrap (Int.tdiv t1 t2)) ((decide (a0<0)) != (decide (a1<0)))).bind fun bt1=>(some (bt1.1,bt1.2.1,bt1.2.2)))))))))=some (r1,r2,r3):=h
 clear h
 by_cases c3:a1=0;{
 rw [if_pos c3] at H
 have c0:(a1==0)=true:=beq_iff_eq.mpr c3
 have c1:(a1 != 0)=false:=bne_eq_false_iff_eq.mpr c3
 clear c3
 simp only [Option.some.injEq,Prod.mk.injEq] at H
 obtain ⟨rfl,rfl,rfl⟩:=H
 go_enter Tryd.func27,Tryd.ntmps27
 go_wp2_with (first|((with_reducible refine gd 4 rfl ?_);refine bx_ 4 36 #[.int .i64 0,.int .i64 0] rfl rfl ?_;intro gb0 hg w4 BK0 hb;have GE0:=bz HB hg;replace HB:=bs HB hb;clear hb hg;have hcz5:=X.k2 BK0))
 refine bodyPost_ret (results_ct rfl _ _ gb0 36 #[.int .i64 0,.int .i64 0] (0,0) _ rfl (br_ BK0) Tryd.underlying36 rfl (by kernel_rfl)) rfl ?_
 exact ⟨ae,bf HB⟩};{
 rw [if_neg c3] at H
 have c0:(a1==0)=false:=beq_eq_false_iff_ne.mpr c3
 have c1:(a1 != 0)=true:=bne_iff_ne.mpr c3
 replace H:=bi_ H;obtain ⟨t0,A6,H⟩:=H
 (try dsimp only at H)
 replace H:=bi_ H;obtain ⟨t1,A7,H⟩:=H
 (try dsimp only at H)
 replace H:=bi_ H;obtain ⟨t2,A8,H⟩:=H
 (try dsimp only at H)
 by_cases c9:t2=0;{
 rw [if_pos c9] at H
 exact absurd H (by simp)};{
 rw [if_neg c9] at H
 have c2:(t2==0)=false:=beq_eq_false_iff_ne.mpr c9
 have c4:(t2 != 0)=true:=bne_iff_ne.mpr c9
 by_cases c5:a0=0;{
 rw [if_pos c5] at H
 have c6:(a0==0)=true:=beq_iff_eq.mpr c5
 have c7:(a0 != 0)=false:=bne_eq_false_iff_eq.mpr c5
 clear c5
 replace H:=bi_ H;obtain ⟨⟨t3,t4,t5⟩,A0,H⟩:=H
 (try dsimp only at H)
 simp only [Option.some.injEq,Prod.mk.injEq] at H
 obtain ⟨rfl,rfl,rfl⟩:=H
 go_enter Tryd.func27,Tryd.ntmps27
 try go_wp2_with (first|((with_reducible refine gd 4 rfl ?_);refine bx_ 4 36 #[.int .i64 0,.int .i64 0] rfl rfl ?_;intro gb0 hg w0 BK0 hb;have GE0:=bz HB hg;replace HB:=bs HB hb;clear hb hg)|((with_reducible refine gc 30 rfl ?_);refine gm_ (some 13) rfl rfl Tryd.func30 (carrefourref01_Size.calls _ _ _ A6.out) ag ?_;rintro w' ⟨nd,rfl⟩;(try (rw [drewN_self w0];generalize hq_:World.drewN w0 _=w0;have n0:Aside0 (w0.heap[gb0]?=some (.cells #[.int .i64 0,.int .i64 0] 36 (0,0))):=⟨by rw [← hq_];exact (bx BK0)⟩;have n1:Aside0 (Below w.heap.size w w0):=⟨by rw [← hq_];exact (bf HB)⟩;clear BK0 HB hq_;have BK0:=n0;have HB:=n1;clear n0 n1)))|((with_reducible refine gc 30 rfl ?_);refine gm_ (some 15) rfl rfl Tryd.func30 (carrefourref01_Size.calls _ _ _ A7.out) ag ?_;rintro w' ⟨nd,rfl⟩;(try (rw [drewN_self w0];generalize hq_:World.drewN w0 _=w0;have n0:Aside0 (w0.heap[gb0]?=some (.cells #[.int .i64 0,.int .i64 0] 36 (0,0))):=⟨by rw [← hq_];exact (bx BK0)⟩;have n1:Aside0 (Below w.heap.size w w0):=⟨by rw [← hq_];exact (bf HB)⟩;clear BK0 HB hq_;have BK0:=n0;have HB:=n1;clear n0 n1)))|((with_reducible refine gc 35 rfl ?_);refine gm_ (some 18) rfl rfl Tryd.func35 (carrefourref02_gcd.calls _ _ _ _ _ A8.out) ag ?_;rintro w' ⟨nd,rfl⟩;(try (rw [drewN_self w0];generalize hq_:World.drewN w0 _=w0;have n0:Aside0 (w0.heap[gb0]?=some (.cells #[.int .i64 0,.int .i64 0] 36 (0,0))):=⟨by rw [← hq_];exact (bx BK0)⟩;have n1:Aside0 (Below w.heap.size w w0):=⟨by rw [← hq_];exact (bf HB)⟩;clear BK0 HB hq_;have BK0:=n0;have HB:=n1;clear n0 n1))))
 replace BK0:=am (blk_drew BK0.out)
 replace HB:=am (below_drew1 HB.out)
 refine start_ (n:=20) (S:=fun w'=>True) (ds:=[]) (m_ 20 0) (by kernel_rfl) rfl rfl trivial (fun hHeld=>?_);refine with_tabW carrefourref02_Of.tab6 carrefourref02_Of.bits6 (fun HT_ HW_=>?_)
 generalize w0.drew=w2 at BK0 HB hHeld ⊢
 refine pu_ 0 (some 19) (m_ 20 1) rfl rfl (ao HT_) ?_
 refine pu_ 1 (some 20) (m_ 20 3) rfl rfl (ao HT_) ?_
 refine pu_ 2 (some 21) (m_ 20 7) rfl rfl (ao HT_) ?_
 refine pu_ 3 (some 22) (m_ 20 15) rfl rfl (ao HT_) ?_
 refine pu_ 4 (some 23) (m_ 20 31) rfl rfl (ao HT_) ?_
 refine pu_ 5 (some 24) (m_ 20 63) rfl rfl (ao HT_) ?_
 refine pu_ 6 (some 25) (m_ 20 127) rfl rfl (ao HT_) ?_
 refine pu_ 7 (some 26) (m_ 20 255) rfl rfl (ao HT_) ?_
 refine pu_ 8 (some 27) (m_ 20 511) rfl rfl (ao HT_) ?_
 refine pv_ 9 (some 28) (m_ 20 1023) rfl rfl (ao HT_) ?_
 refine pv_ 10 (some 29) (m_ 20 2047) rfl rfl (ao HT_) ?_
 refine pv_ 11 (some 30) (m_ 20 4095) rfl rfl (ao HT_) ?_
 refine pv_ 12 (some 31) (m_ 20 8191) rfl rfl (ao HT_) ?_
 refine pv_ 13 (some 32) (m_ 20 16383) rfl rfl (ao HT_) ?_
 refine pu_ 14 (some 33) (m_ 20 32767) rfl rfl (ao HT_) ?_
 refine o1_ 15 (some 34) (m_ 20 65535) rfl rfl (oo HT_) (fun K hK=>?_)
 refine gs_ rfl Tryd.func44 (carrefourref02_made.calls _ (IntKind.u64.wrap (Int.tdiv t0 t2)) (IntKind.u64.wrap (Int.tdiv t1 t2)) _ _ _ _ _ A0.out) ag ?_
 intro w3 hb
 replace BK0:=bb BK0 hb
 replace HB:=bs HB hb
 (try clear hb)
 refine hK.out _ _ trivial (fun hHeld=>?_)
 clear hK K
 refine nr_ (some 34) ?_
 refine pu_ 16 (some 35) (m_ 20 131071) rfl rfl (ao HT_) ?_
 refine pu_ 17 (some 36) (m_ 20 262143) rfl rfl (ao HT_) ?_
 refine o1_ 18 (none) (m_ 20 524287) rfl rfl (oo HT_) (fun K hK=>?_)
 have hs0:c_ w3 gb0 0 (.int .i64 0):=ct BK0 0
 have hfs0:=blk_frozen BK0.out 0
 have hs1:c_ w3 gb0 1 (.int .i64 0):=ct BK0 1
 have hfs1:=blk_frozen BK0.out 1
 refine skip_ (w1:=?_) (by rfl) rfl ?_ ?_
 rotate_left;{
 go_simp
 rfl}
 refine hK.out _ _ trivial (fun hHeld=>?_)
 clear hK K
 refine pu_ 19 (some 5) (m_ 20 1048575) rfl rfl (ao HT_) ?_
 refine done_ (done_of HT_.out (by kernel_rfl)) ?_
 try go_wp2
 refine bodyPost_ret (results_ct rfl _ _ gb0 36 #[.int .i64 t3,.int .i64 t4] (0,0) _ rfl (br_ BK0) Tryd.underlying36 rfl (by kernel_rfl)) rfl ?_
 exact ⟨ae,bf HB⟩};{
 rw [if_neg c5] at H
 have c6:(a0==0)=false:=beq_eq_false_iff_ne.mpr c5
 have c7:(a0 != 0)=true:=bne_iff_ne.mpr c5
 replace H:=bi_ H;obtain ⟨⟨t6,t7,t8⟩,A1,H⟩:=H
 (try dsimp only at H)
 simp only [Option.some.injEq,Prod.mk.injEq] at H
 obtain ⟨rfl,rfl,rfl⟩:=H
 go_enter Tryd.func27,Tryd.ntmps27
 try go_wp2_with (first|((with_reducible refine gd 4 rfl ?_);refine bx_ 4 36 #[.int .i64 0,.int .i64 0] rfl rfl ?_;intro gb0 hg w5 BK0 hb;have GE0:=bz HB hg;replace HB:=bs HB hb;clear hb hg)|((with_reducible refine gc 30 rfl ?_);refine gm_ (some 13) rfl rfl Tryd.func30 (carrefourref01_Size.calls _ _ _ A6.out) ag ?_;rintro w' ⟨nd,rfl⟩;(try (rw [drewN_self w5];generalize hq_:World.drewN w5 _=w5;have n0:Aside0 (w5.heap[gb0]?=some (.cells #[.int .i64 0,.int .i64 0] 36 (0,0))):=⟨by rw [← hq_];exact (bx BK0)⟩;have n1:Aside0 (Below w.heap.size w w5):=⟨by rw [← hq_];exact (bf HB)⟩;clear BK0 HB hq_;have BK0:=n0;have HB:=n1;clear n0 n1)))|((with_reducible refine gc 30 rfl ?_);refine gm_ (some 15) rfl rfl Tryd.func30 (carrefourref01_Size.calls _ _ _ A7.out) ag ?_;rintro w' ⟨nd,rfl⟩;(try (rw [drewN_self w5];generalize hq_:World.drewN w5 _=w5;have n0:Aside0 (w5.heap[gb0]?=some (.cells #[.int .i64 0,.int .i64 0] 36 (0,0))):=⟨by rw [← hq_];exact (bx BK0)⟩;have n1:Aside0 (Below w.heap.size w w5):=⟨by rw [← hq_];exact (bf HB)⟩;clear BK0 HB hq_;have BK0:=n0;have HB:=n1;clear n0 n1)))|((with_reducible refine gc 35 rfl ?_);refine gm_ (some 18) rfl rfl Tryd.func35 (carrefourref02_gcd.calls _ _ _ _ _ A8.out) ag ?_;rintro w' ⟨nd,rfl⟩;(try (rw [drewN_self w5];generalize hq_:World.drewN w5 _=w5;have n0:Aside0 (w5.heap[gb0]?=some (.cells #[.int .i64 0,.int .i64 0] 36 (0,0))):=⟨by rw [← hq_];exact (bx BK0)⟩;have n1:Aside0 (Below w.heap.size w w5):=⟨by rw [← hq_];exact (bf HB)⟩;clear BK0 HB hq_;have BK0:=n0;have HB:=n1;clear n0 n1))))
 replace BK0:=am (blk_drew BK0.out)
 replace HB:=am (below_drew1 HB.out)
 refine start_ (n:=20) (S:=fun w'=>True) (ds:=[]) (m_ 20 0) (by kernel_rfl) rfl rfl trivial (fun hHeld=>?_);refine with_tabW carrefourref02_Of.tab6 carrefourref02_Of.bits6 (fun HT_ HW_=>?_)
 generalize w5.drew=w6 at BK0 HB hHeld ⊢
 refine pu_ 0 (some 19) (m_ 20 1) rfl rfl (ao HT_) ?_
 refine pu_ 1 (some 20) (m_ 20 3) rfl rfl (ao HT_) ?_
 refine pu_ 2 (some 21) (m_ 20 7) rfl rfl (ao HT_) ?_
 refine pu_ 3 (some 22) (m_ 20 15) rfl rfl (ao HT_) ?_
 refine pu_ 4 (some 23) (m_ 20 31) rfl rfl (ao HT_) ?_
 refine pu_ 5 (some 24) (m_ 20 63) rfl rfl (ao HT_) ?_
 refine pu_ 6 (some 25) (m_ 20 127) rfl rfl (ao HT_) ?_
 refine pu_ 7 (some 26) (m_ 20 255) rfl rfl (ao HT_) ?_
 refine pu_ 8 (some 27) (m_ 20 511) rfl rfl (ao HT_) ?_
 refine pu_ 9 (some 28) (m_ 20 1023) rfl rfl (ao HT_) ?_
 refine pu_ 10 (some 29) (m_ 20 2047) rfl rfl (ao HT_) ?_
 refine pu_ 11 (some 30) (m_ 20 4095) rfl rfl (ao HT_) ?_
 refine pu_ 12 (some 31) (m_ 20 8191) rfl rfl (ao HT_) ?_
 refine pu_ 13 (some 32) (m_ 20 16383) rfl rfl (ao HT_) ?_
 refine pu_ 14 (some 33) (m_ 20 32767) rfl rfl (ao HT_) ?_
 refine o1_ 15 (some 34) (m_ 20 65535) rfl rfl (oo HT_) (fun K hK=>?_)
 refine gs_ rfl Tryd.func44 (carrefourref02_made.calls _ (IntKind.u64.wrap (Int.tdiv t0 t2)) (IntKind.u64.wrap (Int.tdiv t1 t2)) ((decide (a0<0)) != (decide (a1<0))) _ _ _ _ A1.out) ag ?_
 intro w7 hb
 replace BK0:=bb BK0 hb
 replace HB:=bs HB hb
 (try clear hb)
 refine hK.out _ _ trivial (fun hHeld=>?_)
 clear hK K
 refine nr_ (some 34) ?_
 refine pu_ 16 (some 35) (m_ 20 131071) rfl rfl (ao HT_) ?_
 refine pu_ 17 (some 36) (m_ 20 262143) rfl rfl (ao HT_) ?_
 refine o1_ 18 (none) (m_ 20 524287) rfl rfl (oo HT_) (fun K hK=>?_)
 have hs2:c_ w7 gb0 0 (.int .i64 0):=ct BK0 0
 have hfs2:=blk_frozen BK0.out 0
 have hs3:c_ w7 gb0 1 (.int .i64 0):=ct BK0 1
 have hfs3:=blk_frozen BK0.out 1
 refine skip_ (w1:=?_) (by rfl) rfl ?_ ?_
 rotate_left;{
 go_simp
 rfl}
 refine hK.out _ _ trivial (fun hHeld=>?_)
 clear hK K
 refine pu_ 19 (some 5) (m_ 20 1048575) rfl rfl (ao HT_) ?_
 refine done_ (done_of HT_.out (by kernel_rfl)) ?_
 try go_wp2
 refine bodyPost_ret (results_ct rfl _ _ gb0 36 #[.int .i64 t6,.int .i64 t7] (0,0) _ rfl (br_ BK0) Tryd.underlying36 rfl (by kernel_rfl)) rfl ?_
 exact ⟨ae,bf HB⟩}}}
theorem carrefourlaw11_f.calls (k:Nat) (a0:Int) (a1:Int) (r1:Int) (r2:Int) (w:World) (h:carrefourlaw11_f.f k a0 a1=some (r1,r2)) :
  Calls Tryd.prog 13 #[.int .i64 a0,.int .i64 a1] w fun e w'=>e=.returned (.agg #[.int .i64 r1,.int .i64 r2])∧Below w.heap.size w w':=by
 have hu0:=Tryd.underlying36
 have HB:=am (Below.refl w.heap.size w)
 have H:((carrefourref02_Of.f k a0 a1).bind fun bt0=>(some (bt0.1,bt0.2.1)))=some (r1,r2):=h
 clear h
 replace H:=bi_ H;obtain ⟨⟨t0,t1,t2⟩,A3,H⟩:=H
 (try dsimp only at H)
 simp only [Option.some.injEq,Prod.mk.injEq] at H
 obtain ⟨rfl,rfl⟩:=H
 go_enter Tryd.func13,Tryd.ntmps13
 go_wp2_with (first|((with_reducible refine gd 4 rfl ?_);refine bx_ 4 36 #[.int .i64 0,.int .i64 0] rfl rfl ?_;intro gb0 hg w4 BK0 hb;have GE0:=bz HB hg;replace HB:=bs HB hb;clear hb hg)|((with_reducible refine gc 27 rfl ?_);refine gm_ (some 10) rfl rfl Tryd.func27 (carrefourref02_Of.calls _ _ _ _ _ _ _ A3.out) ag ?_;intro w5 hb;replace BK0:=bb BK0 hb;replace HB:=bs HB hb;(try clear hb))|((with_reducible refine gd 5 rfl ?_);refine bx_ 5 36 #[.int .i64 0,.int .i64 0] rfl rfl ?_;intro gb1 hg w6 BK1 hb;have GE1:=bz HB hg;have ⟨NB0,NB1⟩:=nb BK0 hg;replace BK0:=bb BK0 hb;replace HB:=bs HB hb;clear hb hg;have hnb7:=nn NB1;have hcz8:=X.k2 BK1;have hcz9:=X.k2 BK0))
 refine bodyPost_ret (results_cell_row rfl _ _ gb0 36 #[.int .i64 t0,.int .i64 t1] (0,0) _ rfl (br_ BK0) Tryd.underlying36 rfl (by kernel_rfl)) rfl ?_
 exact ⟨ae,bf HB⟩
end Go.Proofs.YtenphnkiacfmiaaDoor.X
