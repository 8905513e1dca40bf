/- Walks: each '.calls' says that the Go function comes to what its Lean function tells. Conditions: as each theorem's head says. -/
import Derived.Test.YtenphnkiacfmiaaDoorXD
import Derived.Test.YtenphnkiacfmiaaDoorX0
import Derived.Test.YtenphnkiacfmiaaDoorX17
import Derived.Test.YtenphnkiacfmiaaDoorX20
namespace Go.Proofs.YtenphnkiacfmiaaDoor.X
open Go.RowKit Go.Proofs.YtenphnkiacfmiaaDoorW.PrintWords Go.Proofs.YtenphnkiacfmiaaDoorW.PrintLast Go.Proofs.YtenphnkiacfmiaaDoorW.PrintMore
attribute [local go_sem] max2_int min2_int max_two min_two max_three min_three max_four min_four
set_option linter.unusedVariables false
set_option maxHeartbeats 8000000
set_option maxRecDepth 100000
set_option linter.unusedSimpArgs false
theorem carrefourref01_Order.calls (k:Nat) (A0:Option Addr) (c0:Nat) (l0:List Int) (A1:Option Addr) (c1:Nat) (l1:List Int) (r:Int) (w:World) (hr0:Kd.C (Kd.int .u64) w A0 l0.length l0) (hc0:l0.length≤c0) (hr1:Kd.C (Kd.int .u64) w A1 l1.length l1) (hc1:l1.length≤c1) (h:carrefourref01_Order.f k l0 l1=some r) :
  Calls Tryd.prog 33 #[.slice A0 l0.length c0,.slice A1 l1.length c1] w fun e w'=>e=.returned (.int .i64 r)∧Below w.heap.size w w':=by
 have HR0:=am hr0
 have HC0:=am hc0
 clear hr0 hc0
 have HR1:=am hr1
 have HC1:=am hc1
 clear hr1 hc1
 have HB:=am (Below.refl w.heap.size w)
 have H:(carrefourref01_Order.l0 k l0 l1 (wrap64 ((mx (l0.length:Int) (l1.length:Int))-1)))=some r:=h
 clear h
 obtain ⟨ji3,hji3⟩:∃ j_:Int,(mx (l0.length:Int) (l1.length:Int))=j_:=⟨_,rfl⟩
 replace H:(carrefourref01_Order.l0 k l0 l1 (wrap64 ((ji3)-1)))=some r:=by first|(rw [hji3] at H;exact H)|(simp only [hji3] at H ⊢;exact H)
 (try (have hji3l:0≤ji3:=by (rw [← hji3];unfold mx;(repeat' split)<;>omega)))
 (try (have hji3m:0≤ji3:=by omega))
 have hji0:(if (l0.length:Int)<(l1.length:Int) then (l1.length:Int) else (l0.length:Int))=ji3:=hji3
 have hji3n:(if l0.length<l1.length then (l1.length:Int) else (l0.length:Int))=ji3:=by rw [← hji0];split<;>split<;>omega
 have H':=am H
 clear H
 go_enter Tryd.func33,Tryd.ntmps33
 go_wp2
 go_loopg [6] k (fun kq v6 w'=>∃ (x0:Int),v6=.int .i64 x0∧Aside0 (carrefourref01_Order.l0 kq l0 l1 x0=some r)∧Aside0 (kq≤k)∧Aside0 (Below w.heap.size w w'))
 case atStart=>exact ⟨(wrap64 ((ji3)-1)),(by first|rfl|(simp;done)|(simp only [← hji3]<;>(first|rfl|simp))|(simp [*];done)),H',⟨Nat.le_refl _⟩,⟨bf HB⟩⟩
 case round =>skip;{
 clear H'
 (try clear c1);(try clear p2);(try clear c3)
 obtain ⟨x0,rfl,HA,HK1,HB⟩:=hrel
 cases gk with
 | zero=>exact absurd HA.out (by simp [carrefourref01_Order.l0])
 | succ k1 =>skip;{
 have H:=HA.out
 clear HA
 simp only [carrefourref01_Order.l0] at H
 by_cases c4:x0≥0;{
 rw [if_pos c4] at H
 have c2:decide (0≤x0)=true:=decide_eq_true c4
 clear c4
 have HC5:=am H
 clear H
 go_upto_if 23 with (fail)
 go_cut [7] (fun v7 wc=>∃ (kq:Nat) (x1:Int),v7=.int .u64 x1∧Aside0 (carrefourref01_Order.j1 kq l0 l1 x0 x1 0=some r)∧Aside0 (kq≤k1)∧Aside0 (Below w.heap.size w wc))
 case first =>skip;{
 have H:=HC5.out
 clear HC5
 by_cases c6:x0<(l0.length:Int);{
 rw [if_pos c6] at H
 have c5:decide (x0<(l0.length:Int))=true:=decide_eq_true c6
 clear c6
 (first|rw [c5]|(simp only [i64_w,i32_w];rw [c5])|skip)
 by_cases c7:0≤x0;{
 rw [if_pos c7] at H
 have c8:decide (0≤x0)=true:=decide_eq_true c7
 clear c7
 have H':=am H
 clear H
 have p0:0≤(x0:Int):=od_
 have q0:x0<(l0.length:Int):=od_
 obtain ⟨ad0,e0,hx0⟩:=Kd.at_int HR0.out x0 p0 q0
 cases e0
 replace hx0:=hx_ HB hx0
 replace p0:=eq_true p0
 replace q0:=eq_true q0
 go_wp2
 go_meet
 case rel=>exact ⟨_,(rd l0 x0),(aq),H',⟨by have:=HK1.out;first|omega|exact Nat.le_refl _⟩,⟨bf HB⟩⟩};{
 rw [if_neg c7] at H
 exact absurd H (by simp)}};{
 rw [if_neg c6] at H
 have c5:decide (x0<(l0.length:Int))=false:=decide_eq_false c6
 clear c6
 (first|rw [c5]|(simp only [i64_w,i32_w];rw [c5])|skip)
 have H':=am H
 clear H
 go_wp2
 go_meet
 case rel=>exact ⟨_,(0),(aq),H',⟨by have:=HK1.out;first|omega|exact Nat.le_refl _⟩,⟨bf HB⟩⟩}}
 case rest =>skip;{
 clear HC5
 (try clear c1);(try clear p2);(try clear c3);(try clear c4);(try clear c2);(try clear p5);(try clear q5);(try clear hx5);(try clear c6);(try clear c5);(try clear p6);(try clear c7);(try clear c8);(try clear hx0);(try clear p2);(try clear p0);(try clear q0)
 obtain ⟨kq,x1,rfl,HA,HJ4,HB⟩:=hcut
 cases kq with
 | zero=>exact absurd HA.out (by simp [carrefourref01_Order.j1])
 | succ kj4 =>skip;{
 have H:=HA.out
 clear HA
 simp only [carrefourref01_Order.j1] at H
 have HC8:=am H
 clear H
 go_upto_if 31 with (fail)
 go_cut [8] (fun v8 wc=>∃ (kq:Nat) (x2:Int),v8=.int .u64 x2∧Aside0 (carrefourref01_Order.j2 kq l0 l1 x0 x1 x2=some r)∧Aside0 (kq≤kj4)∧Aside0 (Below w.heap.size w wc))
 case first =>skip;{
 have H:=HC8.out
 clear HC8
 by_cases c9:x0<(l1.length:Int);{
 rw [if_pos c9] at H
 have c13:decide (x0<(l1.length:Int))=true:=decide_eq_true c9
 clear c9
 (first|rw [c13]|(simp only [i64_w,i32_w];rw [c13])|skip)
 by_cases c10:0≤x0;{
 rw [if_pos c10] at H
 have c15:decide (0≤x0)=true:=decide_eq_true c10
 clear c10
 have H':=am H
 clear H
 have p1:0≤(x0:Int):=od_
 have q1:x0<(l1.length:Int):=od_
 obtain ⟨ad1,e1,hx1⟩:=Kd.at_int HR1.out x0 p1 q1
 cases e1
 replace hx1:=hx_ HB hx1
 replace p1:=eq_true p1
 replace q1:=eq_true q1
 go_wp2
 go_meet
 case rel=>exact ⟨_,(rd l1 x0),(aq),H',⟨by have:=HK1.out;have:=HJ4.out;first|omega|exact Nat.le_refl _⟩,⟨bf HB⟩⟩};{
 rw [if_neg c10] at H
 exact absurd H (by simp)}};{
 rw [if_neg c9] at H
 have c13:decide (x0<(l1.length:Int))=false:=decide_eq_false c9
 clear c9
 (first|rw [c13]|(simp only [i64_w,i32_w];rw [c13])|skip)
 have H':=am H
 clear H
 go_wp2
 go_meet
 case rel=>exact ⟨_,(0),(aq),H',⟨by have:=HK1.out;have:=HJ4.out;first|omega|exact Nat.le_refl _⟩,⟨bf HB⟩⟩}}
 case rest =>skip;{
 clear HC8
 (try clear c1);(try clear p2);(try clear c3);(try clear c4);(try clear c2);(try clear p5);(try clear q5);(try clear hx5);(try clear c6);(try clear c5);(try clear p6);(try clear c7);(try clear c8);(try clear c9);(try clear c13);(try clear c10);(try clear c15);(try clear hx0);(try clear hx1);(try clear p2);(try clear p5);(try clear p0);(try clear p1);(try clear p6);(try clear q5);(try clear q0);(try clear q1)
 obtain ⟨kq,x2,rfl,HA,HJ7,HB⟩:=hcut
 cases kq with
 | zero=>exact absurd HA.out (by simp [carrefourref01_Order.j2])
 | succ kj7 =>skip;{
 have H:=HA.out
 clear HA
 simp only [carrefourref01_Order.j2] at H
 by_cases c11:x1<x2;{
 rw [if_pos c11] at H
 have c17:decide (x1<x2)=true:=decide_eq_true c11
 clear c11
 obtain rfl:=Option.some.inj H
 go_wp2
 go_ret
 exact ⟨by first|rfl|(simp [errW_none,errW_some]<;>rfl)|(simp only [← hji3];first|rfl|(simp [errW_none,errW_some]<;>rfl))|(simp [*,errW_none,errW_some]<;>rfl),bf HB⟩};{
 rw [if_neg c11] at H
 have c17:decide (x1<x2)=false:=decide_eq_false c11
 clear c11
 by_cases c12:x1>x2;{
 rw [if_pos c12] at H
 have c19:decide (x2<x1)=true:=decide_eq_true c12
 clear c12
 obtain rfl:=Option.some.inj H
 go_wp2
 go_ret
 exact ⟨by first|rfl|(simp [errW_none,errW_some]<;>rfl)|(simp only [← hji3];first|rfl|(simp [errW_none,errW_some]<;>rfl))|(simp [*,errW_none,errW_some]<;>rfl),bf HB⟩};{
 rw [if_neg c12] at H
 have c19:decide (x2<x1)=false:=decide_eq_false c12
 clear c12
 have H':=am H
 clear H
 go_wp2
 go_roundg kj7
 case measure=>have:=HK1.out;have:=HJ4.out;have:=HJ7.out;omega
 case rel=>exact ⟨(wrap64 (x0-1)),(aq),H',⟨by have:=HK1.out;have:=HJ4.out;have:=HJ7.out;omega⟩,⟨bf HB⟩⟩}}}}}}};{
 rw [if_neg c4] at H
 have c2:decide (0≤x0)=false:=decide_eq_false c4
 clear c4
 obtain rfl:=Option.some.inj H
 go_wp2
 go_ret
 exact ⟨by first|rfl|(simp [errW_none,errW_some]<;>rfl)|(simp only [← hji3];first|rfl|(simp [errW_none,errW_some]<;>rfl))|(simp [*,errW_none,errW_some]<;>rfl),bf HB⟩}}}
theorem carrefourref01_sign.calls (k:Nat) (a0:Int) (a1:Int) (r:Int) (w:World) (h:carrefourref01_sign.f k a0 a1=some r) :
  Calls Tryd.prog 43 #[.int .i64 a0,.int .i64 a1] w fun e w'=>e=.returned (.int .i64 r)∧Drawn0 w w':=by
 have H:(if a0=0 then (carrefourref01_sign.j0 k a0 a1 true) else (carrefourref01_sign.j0 k a0 a1 (a1==0)))=some r:=h
 clear h
 have HC3:=am H
 clear H
 go_enter Tryd.func43,Tryd.ntmps43
 go_upto_region 1 with (fail)
 go_cut [10] (fun v0 wc=>∃ (kq:Nat) (x0:Bool),v0=.bool x0∧Aside0 (carrefourref01_sign.j0 kq a0 a1 x0=some r)∧Aside0 (kq≤k)∧Drawn0 w wc)
 case first =>skip;{
 have H:=HC3.out
 clear HC3
 by_cases c4:a0=0;{
 rw [if_pos c4] at H
 have c0:(a0==0)=true:=beq_iff_eq.mpr c4
 have c1:(a0 != 0)=false:=bne_eq_false_iff_eq.mpr c4
 clear c4
 (first|rw [c0]|(simp only [i64_w,i32_w];rw [c0])|skip)
 have H':=am H
 clear H
 go_wp2
 go_meet
 case rel=>exact ⟨_,(true),(aq),H',⟨by first|omega|exact Nat.le_refl _⟩,dr⟩};{
 rw [if_neg c4] at H
 have c0:(a0==0)=false:=beq_eq_false_iff_ne.mpr c4
 have c1:(a0 != 0)=true:=bne_iff_ne.mpr c4
 (first|rw [c0]|(simp only [i64_w,i32_w];rw [c0])|skip)
 have H':=am H
 clear H
 go_wp2
 go_meet
 case rel=>exact ⟨_,((a1==0)),(aq),H',⟨by first|omega|exact Nat.le_refl _⟩,dr⟩}}
 case rest =>skip;{
 clear HC3
 (try clear p2);(try clear c4);(try clear c0);(try clear c1)
 obtain ⟨kq,x0,rfl,HA,HJ2,⟨mc2,rfl⟩⟩:=hcut
 cases kq with
 | zero=>exact absurd HA.out (by simp [carrefourref01_sign.j0])
 | succ kj2 =>skip;{
 have H:=HA.out
 clear HA
 simp only [carrefourref01_sign.j0] at H
 by_cases c5:x0=true;{
 subst c5
 have H1:(some 0)=some r:=by rw [if_pos rfl] at H;exact H
 clear H
 have H:=H1
 clear H1
 obtain rfl:=Option.some.inj H
 go_wp2
 go_ret
 exact ⟨aq,dr⟩};{
 replace c5:=Bool.eq_false_iff.mpr c5
 subst c5
 have H1:(if ((decide (a0<0)) != (decide (a1<0)))=true then (some (-1)) else (some 1))=some r:=by rw [if_neg (show ¬ (false=true) by decide)] at H;exact H
 clear H
 have H:=H1
 clear H1
 by_cases c6:((decide (a0<0)) != (decide (a1<0)))=true;{
 rw [if_pos c6] at H
 have c2:((decide (a0<0)) != (decide (a1<0)))=true:=c6
 (try (have c3:decide ((decide (a0<0))=(decide (a1<0)))=false:=by simpa using c6))
 (try (have c7:((decide (a0<0))==(decide (a1<0)))=false:=by simpa using c6))
 (try (have c8:¬ ((decide (a0<0))=(decide (a1<0))):=by simpa using c6))
 clear c6
 obtain rfl:=Option.some.inj H
 go_wp2
 go_ret
 exact ⟨aq,dr⟩};{
 rw [if_neg c6] at H
 have c2:((decide (a0<0)) != (decide (a1<0)))=false:=by simpa using c6
 (try (have c3:decide ((decide (a0<0))=(decide (a1<0)))=true:=by simpa using c6))
 (try (have c7:((decide (a0<0))==(decide (a1<0)))=true:=by simpa using c6))
 clear c6
 obtain rfl:=Option.some.inj H
 go_wp2
 go_ret
 exact ⟨aq,dr⟩}}}}
theorem carrefourref01_Compare.calls (k:Nat) (a0:Int) (a1:Int) (a2:Int) (a3:Int) (r:Int) (w:World) (h:carrefourref01_Compare.f k a0 a1 a2 a3=some r) :
  Calls Tryd.prog 25 #[.int .i64 a0,.int .i64 a1,.int .i64 a2,.int .i64 a3] w fun e w'=>e=.returned (.int .i64 r)∧Below w.heap.size w w':=by
 have HB:=am (Below.refl w.heap.size w)
 have H:((carrefourref01_sign.f k a0 a1).bind fun t0=>((carrefourref01_sign.f k a2 a3).bind fun t1=>(if t0<t1 then (some (-1)) else (if t0>t1 then (some 1) else ((carrefourref01_Size.f a0).bind fun t2=>(if t2<2147483648 then ((carrefourref01_Size.f a1).bind fun t3=>(if t3<2147483648 then ((carrefourref01_Size.f a2).bind fun t4=>(if t4<2147483648 then ((carrefourref01_Size.f a3).bind fun t5=>(carrefourref01_Compare.j0 k a0 a1 a2 a3 t0 (decide (t5<2147483648)))) else (carrefourref01_Compare.j0 k a0 a1 a2 a3 t0 false))) else (carrefourref01_Compare.j0 k a0 a1 a2 a3 t0 false))) else (carrefourref01_Compare.j0 k a0 a1 a2 a3 t0 false)))))))=some r:=h
 clear h
 replace H:=bi_ H;obtain ⟨t0,A5,H⟩:=H
 (try dsimp only at H)
 replace H:=bi_ H;obtain ⟨t1,A6,H⟩:=H
 (try dsimp only at H)
 by_cases c7:t0<t1;{
 rw [if_pos c7] at H
 have c0:decide (t0<t1)=true:=decide_eq_true c7
 clear c7
 obtain rfl:=Option.some.inj H
 go_enter Tryd.func25,Tryd.ntmps25
 go_wp2_with (first|((with_reducible refine gc 43 rfl ?_);refine gm_ (some 13) rfl rfl Tryd.func43 (carrefourref01_sign.calls _ _ _ _ _ A5.out) ag ?_;rintro w' ⟨nd,rfl⟩)|((with_reducible refine gc 43 rfl ?_);refine gm_ (some 16) rfl rfl Tryd.func43 (carrefourref01_sign.calls _ _ _ _ _ A6.out) ag ?_;rintro w' ⟨nd,rfl⟩))
 go_ret
 exact ⟨ae,bf HB⟩};{
 rw [if_neg c7] at H
 have c0:decide (t0<t1)=false:=decide_eq_false c7
 clear c7
 by_cases c8:t0>t1;{
 rw [if_pos c8] at H
 have c5:decide (t1<t0)=true:=decide_eq_true c8
 clear c8
 obtain rfl:=Option.some.inj H
 go_enter Tryd.func25,Tryd.ntmps25
 go_wp2_with (first|((with_reducible refine gc 43 rfl ?_);refine gm_ (some 13) rfl rfl Tryd.func43 (carrefourref01_sign.calls _ _ _ _ _ A5.out) ag ?_;rintro w' ⟨nd,rfl⟩)|((with_reducible refine gc 43 rfl ?_);refine gm_ (some 16) rfl rfl Tryd.func43 (carrefourref01_sign.calls _ _ _ _ _ A6.out) ag ?_;rintro w' ⟨nd,rfl⟩))
 go_ret
 exact ⟨ae,bf HB⟩};{
 rw [if_neg c8] at H
 have c5:decide (t1<t0)=false:=decide_eq_false c8
 clear c8
 have HC9:=am H
 clear H
 go_enter Tryd.func25,Tryd.ntmps25
 go_upto_region 7 with (first|((with_reducible refine gc 43 rfl ?_);refine gm_ (some 13) rfl rfl Tryd.func43 (carrefourref01_sign.calls _ _ _ _ _ A5.out) ag ?_;rintro w' ⟨nd,rfl⟩)|((with_reducible refine gc 43 rfl ?_);refine gm_ (some 16) rfl rfl Tryd.func43 (carrefourref01_sign.calls _ _ _ _ _ A6.out) ag ?_;rintro w' ⟨nd,rfl⟩))
 (try simp only [Act.put,si,s0,s1])
 go_cut [40] (fun v0 wc=>∃ (kq:Nat) (x0:Bool),v0=.bool x0∧Aside0 (carrefourref01_Compare.j0 kq a0 a1 a2 a3 t0 x0=some r)∧Aside0 (kq≤k)∧Aside0 (Below w.heap.size w wc))
 case first =>skip;{
 have H:=HC9.out
 clear HC9
 replace H:=bi_ H;obtain ⟨t2,A0,H⟩:=H
 (try dsimp only at H)
 by_cases c6:t2<2147483648;{
 rw [if_pos c6] at H
 have c9:decide (t2<2147483648)=true:=decide_eq_true c6
 clear c6
 (first|rw [c9]|(simp only [i64_w,i32_w];rw [c9])|skip)
 replace H:=bi_ H;obtain ⟨t3,A1,H⟩:=H
 (try dsimp only at H)
 by_cases c13:t3<2147483648;{
 rw [if_pos c13] at H
 have c12:decide (t3<2147483648)=true:=decide_eq_true c13
 clear c13
 replace H:=bi_ H;obtain ⟨t4,A2,H⟩:=H
 (try dsimp only at H)
 by_cases c15:t4<2147483648;{
 rw [if_pos c15] at H
 have c16:decide (t4<2147483648)=true:=decide_eq_true c15
 clear c15
 replace H:=bi_ H;obtain ⟨t5,A3,H⟩:=H
 (try dsimp only at H)
 have H':=am H
 clear H
 go_wp2_with (first|((with_reducible refine gc 30 rfl ?_);refine gm_ (some 24) rfl rfl Tryd.func30 (carrefourref01_Size.calls _ _ _ A0.out) ag ?_;rintro w' ⟨nd,rfl⟩)|(go_at_call 30;(with_reducible refine (carrefourref01_Size.calls _ _ _ A1.out).mono ?_);rintro e w' ⟨rfl,⟨nd,rfl⟩⟩)|(go_at_call 30;(with_reducible refine (carrefourref01_Size.calls _ _ _ A2.out).mono ?_);rintro e w' ⟨rfl,⟨nd,rfl⟩⟩)|(go_at_call 30;(with_reducible refine (carrefourref01_Size.calls _ _ _ A3.out).mono ?_);rintro e w' ⟨rfl,⟨nd,rfl⟩⟩))
 go_meet
 case rel=>exact ⟨_,(decide (t5<2147483648)),(aq),H',⟨by first|omega|exact Nat.le_refl _⟩,⟨bf HB⟩⟩};{
 rw [if_neg c15] at H
 have c16:decide (t4<2147483648)=false:=decide_eq_false c15
 clear c15
 have H':=am H
 clear H
 go_wp2_with (first|((with_reducible refine gc 30 rfl ?_);refine gm_ (some 24) rfl rfl Tryd.func30 (carrefourref01_Size.calls _ _ _ A0.out) ag ?_;rintro w' ⟨nd,rfl⟩)|(go_at_call 30;(with_reducible refine (carrefourref01_Size.calls _ _ _ A1.out).mono ?_);rintro e w' ⟨rfl,⟨nd,rfl⟩⟩)|(go_at_call 30;(with_reducible refine (carrefourref01_Size.calls _ _ _ A2.out).mono ?_);rintro e w' ⟨rfl,⟨nd,rfl⟩⟩))
 go_meet
 case rel=>exact ⟨_,(false),(aq),H',⟨by first|omega|exact Nat.le_refl _⟩,⟨bf HB⟩⟩}};{
 rw [if_neg c13] at H
 have c12:decide (t3<2147483648)=false:=decide_eq_false c13
 clear c13
 have H':=am H
 clear H
 go_wp2_with (first|((with_reducible refine gc 30 rfl ?_);refine gm_ (some 24) rfl rfl Tryd.func30 (carrefourref01_Size.calls _ _ _ A0.out) ag ?_;rintro w' ⟨nd,rfl⟩)|(go_at_call 30;(with_reducible refine (carrefourref01_Size.calls _ _ _ A1.out).mono ?_);rintro e w' ⟨rfl,⟨nd,rfl⟩⟩))
 go_meet
 case rel=>exact ⟨_,(false),(aq),H',⟨by first|omega|exact Nat.le_refl _⟩,⟨bf HB⟩⟩}};{
 rw [if_neg c6] at H
 have c9:decide (t2<2147483648)=false:=decide_eq_false c6
 clear c6
 (first|rw [c9]|(simp only [i64_w,i32_w];rw [c9])|skip)
 have H':=am H
 clear H
 go_wp2_with (first|((with_reducible refine gc 30 rfl ?_);refine gm_ (some 24) rfl rfl Tryd.func30 (carrefourref01_Size.calls _ _ _ A0.out) ag ?_;rintro w' ⟨nd,rfl⟩))
 go_meet
 case rel=>exact ⟨_,(false),(aq),H',⟨by first|omega|exact Nat.le_refl _⟩,⟨bf HB⟩⟩}}
 case rest =>skip;{
 clear HC9
 (try clear c1);(try clear c2);(try clear p2);(try clear c3);(try clear c4);(try clear c7);(try clear c0);(try clear c8);(try clear c5);(try clear c6);(try clear c9);(try clear c13);(try clear c12);(try clear c15);(try clear c16)
 obtain ⟨kq,x0,rfl,HA,HJ8,HB⟩:=hcut
 cases kq with
 | zero=>exact absurd HA.out (by simp [carrefourref01_Compare.j0])
 | succ kj8 =>skip;{
 have H:=HA.out
 clear HA
 simp only [carrefourref01_Compare.j0] at H
 by_cases c17:x0=true;{
 subst c17
 have H1:(if (wrap64 (a0*a1))<(wrap64 (a2*a3)) then (some (-1)) else (if (wrap64 (a0*a1))>(wrap64 (a2*a3)) then (some 1) else (some 0)))=some r:=by rw [if_pos rfl] at H;exact H
 clear H
 have H:=H1
 clear H1
 by_cases c18:(wrap64 (a0*a1))<(wrap64 (a2*a3));{
 rw [if_pos c18] at H
 have c22:decide ((wrap64 (a0*a1))<(wrap64 (a2*a3)))=true:=decide_eq_true c18
 clear c18
 obtain rfl:=Option.some.inj H
 go_wp2
 go_ret
 exact ⟨ae,bf HB⟩};{
 rw [if_neg c18] at H
 have c22:decide ((wrap64 (a0*a1))<(wrap64 (a2*a3)))=false:=decide_eq_false c18
 clear c18
 by_cases c19:(wrap64 (a0*a1))>(wrap64 (a2*a3));{
 rw [if_pos c19] at H
 have c24:decide ((wrap64 (a2*a3))<(wrap64 (a0*a1)))=true:=decide_eq_true c19
 clear c19
 obtain rfl:=Option.some.inj H
 go_wp2
 go_ret
 exact ⟨ae,bf HB⟩};{
 rw [if_neg c19] at H
 have c24:decide ((wrap64 (a2*a3))<(wrap64 (a0*a1)))=false:=decide_eq_false c19
 clear c19
 obtain rfl:=Option.some.inj H
 go_wp2
 go_ret
 exact ⟨ae,bf HB⟩}}};{
 replace c17:=Bool.eq_false_iff.mpr c17
 subst c17
 have H1:((carrefourref01_Size.f a0).bind fun t6=>((carrefourref01_Size.f a1).bind fun t7=>((carrefourref01_Times.f kj8 t6 t7).bind fun t8=>((carrefourref01_Size.f a2).bind fun t9=>((carrefourref01_Size.f a3).bind fun t10=>((carrefourref01_Times.f kj8 t9 t10).bind fun t11=>((carrefourref01_Order.f kj8 t8 t11).bind fun t12=>(some (wrap64 (t0*t12))))))))))=some r:=by rw [if_neg (show ¬ (false=true) by decide)] at H;exact H
 clear H
 have H:=H1
 clear H1
 replace H:=bi_ H;obtain ⟨t6,A4,H⟩:=H
 (try dsimp only at H)
 replace H:=bi_ H;obtain ⟨t7,A7,H⟩:=H
 (try dsimp only at H)
 replace H:=bi_ H;obtain ⟨t8,A8,H⟩:=H
 (try dsimp only at H)
 replace H:=bi_ H;obtain ⟨t9,A9,H⟩:=H
 (try dsimp only at H)
 replace H:=bi_ H;obtain ⟨t10,A24,H⟩:=H
 (try dsimp only at H)
 replace H:=bi_ H;obtain ⟨t11,A25,H⟩:=H
 (try dsimp only at H)
 replace H:=bi_ H;obtain ⟨t12,A26,H⟩:=H
 (try dsimp only at H)
 obtain rfl:=Option.some.inj H
 go_wp2_with (first|((with_reducible refine gc 30 rfl ?_);refine gm_ (some 57) rfl rfl Tryd.func30 (carrefourref01_Size.calls _ _ _ A4.out) ag ?_;rintro w' ⟨nd,rfl⟩)|((with_reducible refine gc 30 rfl ?_);refine gm_ (some 59) rfl rfl Tryd.func30 (carrefourref01_Size.calls _ _ _ A7.out) ag ?_;rintro w' ⟨nd,rfl⟩)|((with_reducible refine gc 29 rfl ?_);refine gl_ (some 60) rfl rfl Tryd.func29 ((carrefourref01_Times.calls kj8 _ _ _ _ A8.out).mono ?_) ag;rintro e w0 ⟨v1,rfl,ho0,hb⟩;refine ⟨_,rfl,?_⟩;have HO0:=am (Kd.R_lower ho0 (below_size (bf HB)));replace HB:=bs HB hb;(try clear hb);(try clear ho0))|((with_reducible refine gc 30 rfl ?_);refine gm_ (some 62) rfl rfl Tryd.func30 (carrefourref01_Size.calls _ _ _ A9.out) ag ?_;rintro w' ⟨nd,rfl⟩)|((with_reducible refine gc 30 rfl ?_);refine gm_ (some 64) rfl rfl Tryd.func30 (carrefourref01_Size.calls _ _ _ A24.out) ag ?_;rintro w' ⟨nd,rfl⟩)|((with_reducible refine gc 29 rfl ?_);refine gl_ (some 65) rfl rfl Tryd.func29 ((carrefourref01_Times.calls kj8 _ _ _ _ A25.out).mono ?_) ag;rintro e w1 ⟨v2,rfl,ho0,hb⟩;refine ⟨_,rfl,?_⟩;have HO1:=am (Kd.R_lower (Kd.R_new' ho0 (rl HO0)) (below_size (bf HB)));replace HO0:=re_ HO0 (Kd.R_base ho0) hb;replace HB:=bs HB hb;(try clear hb);(try clear ho0);obtain ⟨Ao0,co0,eo0⟩:=Kd.R_slice HO0.out;subst eo0;obtain ⟨Ao1,co1,eo1⟩:=Kd.R_slice HO1.out;subst eo1)|((with_reducible refine gc 33 rfl ?_);refine gm_ (some 66) rfl rfl Tryd.func33 (carrefourref01_Order.calls kj8 _ _ _ _ _ _ _ _ ?side1 ?side2 ?side3 ?side4 A26.out) ag ?_;(case side1=>exact rc HO0);(case side2=>exact (Kd.R_reads' HO0.out).2.1);(case side3=>exact rc HO1);(case side4=>exact (Kd.R_reads' HO1.out).2.1);intro w2 hb;replace HO0:=rb HO0 hb;replace HO1:=rb HO1 hb;replace HB:=bs HB hb;(try clear hb)))
 go_ret
 exact ⟨ae,bf HB⟩}}}}}
theorem carrefourref02_Cmp.calls (k:Nat) (a0:Int) (a1:Int) (a2:Int) (a3:Int) (r:Int) (w:World) (h:carrefourref02_Cmp.f k a0 a1 a2 a3=some r) :
  Calls Tryd.prog 11 #[.agg #[.int .i64 a0,.int .i64 a1],.agg #[.int .i64 a2,.int .i64 a3]] w fun e w'=>e=.returned (.int .i64 r)∧Below w.heap.size w w':=by
 have hu0:=Tryd.underlying36
 have HB:=am (Below.refl w.heap.size w)
 have H:((carrefourref02_Norm.f k a0 a1).bind fun bt0=>((carrefourref02_Norm.f k a2 a3).bind fun bt1=>((carrefourref01_Compare.f k bt0.1 bt1.2 bt1.1 bt0.2).bind fun t0=>(some t0))))=some r:=h
 clear h
 replace H:=bi_ H;obtain ⟨⟨t1,t2⟩,A3,H⟩:=H
 (try dsimp only at H)
 replace H:=bi_ H;obtain ⟨⟨t3,t4⟩,A4,H⟩:=H
 (try dsimp only at H)
 replace H:=bi_ H;obtain ⟨t0,A5,H⟩:=H
 (try dsimp only at H)
 obtain rfl:=Option.some.inj H
 go_enter Tryd.func11,Tryd.ntmps11
 go_wp2_with (first|((with_reducible refine gd 2 rfl ?_);refine bx_ 2 36 #[.int .i64 a0,.int .i64 a1] rfl rfl ?_;intro gb0 hg w6 BK0 hb;have GE0:=bz HB hg;replace HB:=bs HB hb;clear hb hg)|((with_reducible refine gd 3 rfl ?_);refine bx_ 3 36 #[.int .i64 a2,.int .i64 a3] rfl rfl ?_;intro gb1 hg w7 BK1 hb;have GE1:=bz HB hg;have ⟨NB0,NB1⟩:=nb BK0 hg;replace BK0:=bb BK0 hb;replace HB:=bs HB hb;clear hb hg;have hnb8:=nn NB0;have hcz9:=X.k2 BK0)|((with_reducible refine gc 24 rfl ?_);refine gm_ (some 6) rfl rfl Tryd.func24 (carrefourref02_Norm.calls _ _ _ _ _ _ A3.out) ag ?_;intro w0 hb;replace BK0:=bb BK0 hb;replace BK1:=bb BK1 hb;replace HB:=bs HB hb;(try clear hb);have hcz0:=X.k2 BK0;have hcz1:=X.k2 BK1)|((with_reducible refine gc 24 rfl ?_);refine gm_ (some 8) rfl rfl Tryd.func24 (carrefourref02_Norm.calls _ _ _ _ _ _ A4.out) ag ?_;intro w1 hb;replace BK0:=bp_ #[.int .i64 t1,.int .i64 t2] BK0 hb;replace BK1:=bb BK1 hb;replace HB:=bs HB hb;(try clear hb);have hcz2:=X.k2 BK1;have hcz3:=X.k2 BK0)|((with_reducible refine gc 25 rfl ?_);refine gm_ (some 17) rfl rfl Tryd.func25 (carrefourref01_Compare.calls _ _ _ _ _ _ _ A5.out) ag ?_;intro w2 hb;replace BK1:=bp_ #[.int .i64 t3,.int .i64 t4] BK1 hb;replace HB:=bs HB hb;(try clear hb)))
 go_ret
 exact ⟨ae,bf HB⟩
theorem carrefourref02_few.calls (a0:Int) (a1:Int) (a2:Int) (a3:Int) (r:Bool) (w:World) (h:carrefourref02_few.f a0 a1 a2 a3=some r) :
  Calls Tryd.prog 26 #[.agg #[.int .i64 a0,.int .i64 a1],.agg #[.int .i64 a2,.int .i64 a3]] w fun e w'=>e=.returned (.bool r)∧Below w.heap.size w w':=by
 have hu0:=Tryd.underlying36
 have HB:=am (Below.refl w.heap.size w)
 have H:((carrefourref01_Size.f a0).bind fun t0=>(if t0<1073741824 then ((carrefourref01_Size.f a2).bind fun t1=>(if t1<1073741824 then (if a1<1073741824 then (some (decide (a3<1073741824))) else (some false)) else (some false))) else (some false)))=some r:=h
 clear h
 replace H:=bi_ H;obtain ⟨t0,A3,H⟩:=H
 (try dsimp only at H)
 by_cases c4:t0<1073741824;{
 rw [if_pos c4] at H
 have c0:decide (t0<1073741824)=true:=decide_eq_true c4
 clear c4
 replace H:=bi_ H;obtain ⟨t1,A5,H⟩:=H
 (try dsimp only at H)
 by_cases c6:t1<1073741824;{
 rw [if_pos c6] at H
 have c1:decide (t1<1073741824)=true:=decide_eq_true c6
 clear c6
 by_cases c7:a1<1073741824;{
 rw [if_pos c7] at H
 have c2:decide (a1<1073741824)=true:=decide_eq_true c7
 clear c7
 obtain rfl:=Option.some.inj H
 go_enter Tryd.func26,Tryd.ntmps26
 go_wp2_with (first|((with_reducible refine gd 2 rfl ?_);refine bx_ 2 36 #[.int .i64 a0,.int .i64 a1] rfl rfl ?_;intro gb0 hg w8 BK0 hb;have GE0:=bz HB hg;replace HB:=bs HB hb;clear hb hg)|((with_reducible refine gd 3 rfl ?_);refine bx_ 3 36 #[.int .i64 a2,.int .i64 a3] rfl rfl ?_;intro gb1 hg w9 BK1 hb;have GE1:=bz HB hg;have ⟨NB0,NB1⟩:=nb BK0 hg;replace BK0:=bb BK0 hb;replace HB:=bs HB hb;clear hb hg;have hnb0:=nn NB0;have hcz0:=X.k2 BK0)|((with_reducible refine gc 30 rfl ?_);refine gm_ (some 7) rfl rfl Tryd.func30 (carrefourref01_Size.calls _ _ _ A3.out) ag ?_;rintro w' ⟨nd,rfl⟩;have hcz1:=X.k2 BK1)|(go_at_call 30;(with_reducible refine (carrefourref01_Size.calls _ _ _ A5.out).mono ?_);rintro e w' ⟨rfl,⟨nd,rfl⟩⟩))
 go_ret
 exact ⟨ae,bf HB⟩};{
 rw [if_neg c7] at H
 have c2:decide (a1<1073741824)=false:=decide_eq_false c7
 clear c7
 obtain rfl:=Option.some.inj H
 go_enter Tryd.func26,Tryd.ntmps26
 go_wp2_with (first|((with_reducible refine gd 2 rfl ?_);refine bx_ 2 36 #[.int .i64 a0,.int .i64 a1] rfl rfl ?_;intro gb0 hg w0 BK0 hb;have GE0:=bz HB hg;replace HB:=bs HB hb;clear hb hg)|((with_reducible refine gd 3 rfl ?_);refine bx_ 3 36 #[.int .i64 a2,.int .i64 a3] rfl rfl ?_;intro gb1 hg w1 BK1 hb;have GE1:=bz HB hg;have ⟨NB0,NB1⟩:=nb BK0 hg;replace BK0:=bb BK0 hb;replace HB:=bs HB hb;clear hb hg;have hnb1:=nn NB0;have hcz2:=X.k2 BK0)|((with_reducible refine gc 30 rfl ?_);refine gm_ (some 7) rfl rfl Tryd.func30 (carrefourref01_Size.calls _ _ _ A3.out) ag ?_;rintro w' ⟨nd,rfl⟩;have hcz3:=X.k2 BK1)|(go_at_call 30;(with_reducible refine (carrefourref01_Size.calls _ _ _ A5.out).mono ?_);rintro e w' ⟨rfl,⟨nd,rfl⟩⟩))
 go_ret
 exact ⟨ae,bf HB⟩}};{
 rw [if_neg c6] at H
 have c1:decide (t1<1073741824)=false:=decide_eq_false c6
 clear c6
 obtain rfl:=Option.some.inj H
 go_enter Tryd.func26,Tryd.ntmps26
 go_wp2_with (first|((with_reducible refine gd 2 rfl ?_);refine bx_ 2 36 #[.int .i64 a0,.int .i64 a1] rfl rfl ?_;intro gb0 hg w2 BK0 hb;have GE0:=bz HB hg;replace HB:=bs HB hb;clear hb hg)|((with_reducible refine gd 3 rfl ?_);refine bx_ 3 36 #[.int .i64 a2,.int .i64 a3] rfl rfl ?_;intro gb1 hg w3 BK1 hb;have GE1:=bz HB hg;have ⟨NB0,NB1⟩:=nb BK0 hg;replace BK0:=bb BK0 hb;replace HB:=bs HB hb;clear hb hg;have hnb2:=nn NB0;have hcz4:=X.k2 BK0)|((with_reducible refine gc 30 rfl ?_);refine gm_ (some 7) rfl rfl Tryd.func30 (carrefourref01_Size.calls _ _ _ A3.out) ag ?_;rintro w' ⟨nd,rfl⟩;have hcz5:=X.k2 BK1)|(go_at_call 30;(with_reducible refine (carrefourref01_Size.calls _ _ _ A5.out).mono ?_);rintro e w' ⟨rfl,⟨nd,rfl⟩⟩))
 go_ret
 exact ⟨ae,bf HB⟩}};{
 rw [if_neg c4] at H
 have c0:decide (t0<1073741824)=false:=decide_eq_false c4
 clear c4
 obtain rfl:=Option.some.inj H
 go_enter Tryd.func26,Tryd.ntmps26
 go_wp2_with (first|((with_reducible refine gd 2 rfl ?_);refine bx_ 2 36 #[.int .i64 a0,.int .i64 a1] rfl rfl ?_;intro gb0 hg w4 BK0 hb;have GE0:=bz HB hg;replace HB:=bs HB hb;clear hb hg)|((with_reducible refine gd 3 rfl ?_);refine bx_ 3 36 #[.int .i64 a2,.int .i64 a3] rfl rfl ?_;intro gb1 hg w5 BK1 hb;have GE1:=bz HB hg;have ⟨NB0,NB1⟩:=nb BK0 hg;replace BK0:=bb BK0 hb;replace HB:=bs HB hb;clear hb hg;have hnb3:=nn NB0;have hcz6:=X.k2 BK0)|((with_reducible refine gc 30 rfl ?_);refine gm_ (some 7) rfl rfl Tryd.func30 (carrefourref01_Size.calls _ _ _ A3.out) ag ?_;rintro w' ⟨nd,rfl⟩))
 go_ret
 exact ⟨ae,bf HB⟩}
end Go.Proofs.YtenphnkiacfmiaaDoor.X
