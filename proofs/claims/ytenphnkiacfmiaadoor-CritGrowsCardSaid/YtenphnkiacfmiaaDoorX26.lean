/- Walks: each '.calls' says that the Go function comes to what its Lean function tells. Conditions: as each theorem's head says. -/
import Derived.Test.YtenphnkiacfmiaaDoorXD
import Derived.Test.YtenphnkiacfmiaaDoorX0
import Derived.Test.YtenphnkiacfmiaaDoorX7
import Derived.Test.YtenphnkiacfmiaaDoorX16
import Derived.Test.YtenphnkiacfmiaaDoorX17
import Derived.Test.YtenphnkiacfmiaaDoorX19
import Derived.Test.YtenphnkiacfmiaaDoorX20
import Derived.Test.YtenphnkiacfmiaaDoorX21
import Derived.Test.YtenphnkiacfmiaaDoorX24
import Derived.Test.YtenphnkiacfmiaaDoorX25
namespace Go.Proofs.YtenphnkiacfmiaaDoor.X
open Go.RowKit Go.Proofs.YtenphnkiacfmiaaDoorW.PrintWords Go.Proofs.YtenphnkiacfmiaaDoorW.PrintLast Go.Proofs.YtenphnkiacfmiaaDoorW.PrintMore
attribute [local go_sem] max2_int min2_int max_two min_two max_three min_three max_four min_four
set_option linter.unusedVariables false
set_option maxHeartbeats 8000000
set_option maxRecDepth 100000
set_option linter.unusedSimpArgs false
def carrefourlaw11_CritGrows.T6:Bool × List (List Nat × List Nat):=(true,[([],[]),([],[]),([0,1],[0,1]),([2],[2]),([],[]),([3,4,4],[3,4]),([5],[5]),([6],[6]),([6],[6]),([],[]),([9,7,5,0,1,2,3,4,5,6,7,9],[7,9]),([8,10,0,1,2,3,4,5,6,7,8,9,10],[8])])
def carrefourlaw11_CritGrows.B6:List Nat:=[0,0,3,7,0,31,63,127,127,0,767,2047]
theorem carrefourlaw11_CritGrows.tab6:rtab .any (opsOf Tryd.f4 6)=carrefourlaw11_CritGrows.T6:=by kernel_rfl
theorem carrefourlaw11_CritGrows.bits6:waitsOk carrefourlaw11_CritGrows.T6.2 carrefourlaw11_CritGrows.B6=true:=by kernel_rfl
theorem carrefourlaw11_CritGrows.calls (k:Nat) (a0:ByteArray) (A0:Option Addr) (c0:Nat) (l0:List (S96)) (A2:Option Addr) (c2:Nat) (l2:List (S98)) (A3:Option Addr) (c9:Nat) (l3:List (S61)) (A4:Option Addr) (c10:Nat) (l4:List (S33)) (A5:Option Addr) (c11:Nat) (l5:List (S100)) (a1:Int) (A1:Option Addr) (c1:Nat) (l1:List (S36)) (a2:Int) (r:Bool) (w:World) (hr0:Kd.C k96 w A0 l0.length l0) (hc0:l0.length≤c0) (hr2:Kd.C k98 w A2 l2.length l2) (hc2:l2.length≤c2) (hr3:Kd.C k61 w A3 l3.length l3) (hc3:l3.length≤c9) (hr4:Kd.C k33 w A4 l4.length l4) (hc4:l4.length≤c10) (hr5:Kd.C k100 w A5 l5.length l5) (hc5:l5.length≤c11) (hr1:Kd.C k36 w A1 l1.length l1) (hc1:l1.length≤c1) (h:carrefourlaw11_CritGrows.f k a0 l0 l2 l3 l4 l5 a1 l1 a2=some r) (hT:TabOK w) :
  Calls Tryd.prog 4 #[.agg #[.string a0,.slice A0 l0.length c0,.slice A2 l2.length c2,.slice A3 l3.length c9,.slice A4 l4.length c10,.slice A5 l5.length c11,.int .i64 a1],.slice A1 l1.length c1,.int .i64 a2] w fun e w'=>e=.returned (.bool r)∧Below w.heap.size w w':=by
 have GT:=am hT
 clear hT
 have hu0:=Tryd.underlying28
 have hu1:=Tryd.underlying39
 have hu2:=Tryd.underlying36
 have HR0:=am hr0
 have HC0:=am hc0
 clear hr0 hc0
 have HR2:=am hr2
 have HC2:=am hc2
 clear hr2 hc2
 have HR3:=am hr3
 have HC3:=am hc3
 clear hr3 hc3
 have HR4:=am hr4
 have HC5:=am hc4
 clear hr4 hc4
 have HR5:=am hr5
 have HC6:=am hc5
 clear hr5 hc5
 have HR1:=am hr1
 have HC1:=am hc1
 clear hr1 hc1
 have HB:=am (Below.refl w.heap.size w)
 have H:((carrefourlaw11_few.f k a0 l0 l2 l3 l4 l5 a1 l1).bind fun t0=>(if t0=true then (if (l1.length:Int)=0 then (carrefourlaw11_CritGrows.j0 k l1 a2 true a0 l0 l2 l3 l4 l5 a1) else (carrefourlaw11_CritGrows.j0 k l1 a2 (decide (a2<0)) a0 l0 l2 l3 l4 l5 a1)) else (carrefourlaw11_CritGrows.j0 k l1 a2 true a0 l0 l2 l3 l4 l5 a1)))=some r:=h
 clear h
 have HC4:=am H
 clear H
 go_enter Tryd.func4,Tryd.ntmps4
 go_upto_region 1 with (first|((with_reducible refine gate_dst (N:=3) rfl ?_);(try (refine gate_guard (by rfl) ?_;dsimp only));refine box_event ?hg (N:=3) ?hd (cs:=#[.string a0,.slice A0 l0.length c0,.slice A2 l2.length c2,.slice A3 l3.length c9,.slice A4 l4.length c10,.slice A5 l5.length c11,.int .i64 a1]) (t:=28) ?hr ?_;(case hd=>rfl);(case hg=>rfl);(case hr=>first|(go_simp;done)|(go_simp;rfl));intro gb0 hg w5 hbox hb;have BK0:=am (hbox);have GE0:=bz HB hg;replace HB:=bs HB hb;clear hb hg))
 (try simp only [Act.put,si,s0,s1])
 go_cut [30] (fun v0 wc=>∃ (kq:Nat) (x0:Bool),v0=.bool x0∧Aside0 (carrefourlaw11_CritGrows.j0 kq l1 a2 x0 a0 l0 l2 l3 l4 l5 a1=some r)∧Aside0 (kq≤k)∧Aside0 (wc.heap[gb0]?=some (.cells #[.string a0,(.slice A0 l0.length c0),(.slice A2 l2.length c2),(.slice A3 l3.length c9),(.slice A4 l4.length c10),(.slice A5 l5.length c11),.int .i64 a1] 28 (0,0)))∧Aside0 (Below w.heap.size w wc))
 case first =>skip;{
 have H:=HC4.out
 clear HC4
 replace H:=bi_ H;obtain ⟨t0,A6,H⟩:=H
 (try dsimp only at H)
 by_cases c7:t0=true;{
 subst c7
 have H1:(if (l1.length:Int)=0 then (carrefourlaw11_CritGrows.j0 k l1 a2 true a0 l0 l2 l3 l4 l5 a1) else (carrefourlaw11_CritGrows.j0 k l1 a2 (decide (a2<0)) a0 l0 l2 l3 l4 l5 a1))=some r:=by rw [if_pos rfl] at H;exact H
 clear H
 have H:=H1
 clear H1
 by_cases c8:(l1.length:Int)=0;{
 rw [if_pos c8] at H
 have c14:((l1.length:Int)==0)=true:=beq_iff_eq.mpr c8
 have c16:((l1.length:Int) != 0)=false:=bne_eq_false_iff_eq.mpr c8
 clear c8
 (first|rw [c14]|(simp only [i64_w,i32_w];rw [c14])|skip)
 have H':=am H
 clear H
 have hcz9:=X.k7 BK0
 go_wp2_with (first|((with_reducible refine gc 5 rfl ?_);refine gm_ (some 20) rfl rfl Tryd.func5 (carrefourlaw11_few.calls _ _ (fun k_=>k_<w.heap.size) _ _ _ (fun k_=>k_<w.heap.size) _ _ _ (fun k_=>k_<w.heap.size) _ _ _ (fun k_=>k_<w.heap.size) _ _ _ (fun k_=>k_<w.heap.size) _ _ _ _ _ _ _ _ _ ?side1 ?side2 ?side3 ?side4 ?side5 ?side6 ?side7 A6.out) ag ?_;(case side1=>exact Kd.V_mk HC0.out (Kd.F_below (Kd.C_F k96_heap HR0.out) (bf HB)));(case side2=>exact Kd.V_mk HC2.out (Kd.F_below (Kd.C_F k98_heap HR2.out) (bf HB)));(case side3=>exact Kd.V_mk HC3.out (Kd.F_below (Kd.C_F k61_heap HR3.out) (bf HB)));(case side4=>exact Kd.V_mk HC5.out (Kd.F_below (Kd.C_F k33_heap HR4.out) (bf HB)));(case side5=>exact Kd.V_mk HC6.out (Kd.F_below (Kd.C_F k100_heap HR5.out) (bf HB)));(case side6=>repeat (first|exact (Kd.C_below HR1.out HB.out)|(with_reducible refine Kd.C_alloc ?_ _)|(with_reducible refine Kd.C_drewN ?_ _)|(with_reducible refine Kd.C_drew ?_)));(case side7=>exact HC1.out);intro w2 hb;replace BK0:=bb BK0 hb;replace HB:=bs HB hb;(try clear hb)))
 go_meet
 case rel=>exact ⟨_,(true),(aq),H',⟨by first|omega|exact Nat.le_refl _⟩,bu_ BK0,⟨bf HB⟩⟩};{
 rw [if_neg c8] at H
 have c14:((l1.length:Int)==0)=false:=beq_eq_false_iff_ne.mpr c8
 have c16:((l1.length:Int) != 0)=true:=bne_iff_ne.mpr c8
 have c17:¬ (l1=[]):=fun h_=>c8 (by rw [h_];rfl)
 (first|rw [c14]|(simp only [i64_w,i32_w];rw [c14])|skip)
 have H':=am H
 clear H
 have hcz0:=X.k7 BK0
 go_wp2_with (first|((with_reducible refine gc 5 rfl ?_);refine gm_ (some 20) rfl rfl Tryd.func5 (carrefourlaw11_few.calls _ _ (fun k_=>k_<w.heap.size) _ _ _ (fun k_=>k_<w.heap.size) _ _ _ (fun k_=>k_<w.heap.size) _ _ _ (fun k_=>k_<w.heap.size) _ _ _ (fun k_=>k_<w.heap.size) _ _ _ _ _ _ _ _ _ ?side1 ?side2 ?side3 ?side4 ?side5 ?side6 ?side7 A6.out) ag ?_;(case side1=>exact Kd.V_mk HC0.out (Kd.F_below (Kd.C_F k96_heap HR0.out) (bf HB)));(case side2=>exact Kd.V_mk HC2.out (Kd.F_below (Kd.C_F k98_heap HR2.out) (bf HB)));(case side3=>exact Kd.V_mk HC3.out (Kd.F_below (Kd.C_F k61_heap HR3.out) (bf HB)));(case side4=>exact Kd.V_mk HC5.out (Kd.F_below (Kd.C_F k33_heap HR4.out) (bf HB)));(case side5=>exact Kd.V_mk HC6.out (Kd.F_below (Kd.C_F k100_heap HR5.out) (bf HB)));(case side6=>repeat (first|exact (Kd.C_below HR1.out HB.out)|(with_reducible refine Kd.C_alloc ?_ _)|(with_reducible refine Kd.C_drewN ?_ _)|(with_reducible refine Kd.C_drew ?_)));(case side7=>exact HC1.out);intro w3 hb;replace BK0:=bb BK0 hb;replace HB:=bs HB hb;(try clear hb)))
 go_meet
 case rel=>exact ⟨_,(decide (a2<0)),(aq),H',⟨by first|omega|exact Nat.le_refl _⟩,bu_ BK0,⟨bf HB⟩⟩}};{
 replace c7:=Bool.eq_false_iff.mpr c7
 subst c7
 have H1:(carrefourlaw11_CritGrows.j0 k l1 a2 true a0 l0 l2 l3 l4 l5 a1)=some r:=by rw [if_neg (show ¬ (false=true) by decide)] at H;exact H
 clear H
 have H:=H1
 clear H1
 have H':=am H
 clear H
 have hcz1:=X.k7 BK0
 go_wp2_with (first|((with_reducible refine gc 5 rfl ?_);refine gm_ (some 20) rfl rfl Tryd.func5 (carrefourlaw11_few.calls _ _ (fun k_=>k_<w.heap.size) _ _ _ (fun k_=>k_<w.heap.size) _ _ _ (fun k_=>k_<w.heap.size) _ _ _ (fun k_=>k_<w.heap.size) _ _ _ (fun k_=>k_<w.heap.size) _ _ _ _ _ _ _ _ _ ?side1 ?side2 ?side3 ?side4 ?side5 ?side6 ?side7 A6.out) ag ?_;(case side1=>exact Kd.V_mk HC0.out (Kd.F_below (Kd.C_F k96_heap HR0.out) (bf HB)));(case side2=>exact Kd.V_mk HC2.out (Kd.F_below (Kd.C_F k98_heap HR2.out) (bf HB)));(case side3=>exact Kd.V_mk HC3.out (Kd.F_below (Kd.C_F k61_heap HR3.out) (bf HB)));(case side4=>exact Kd.V_mk HC5.out (Kd.F_below (Kd.C_F k33_heap HR4.out) (bf HB)));(case side5=>exact Kd.V_mk HC6.out (Kd.F_below (Kd.C_F k100_heap HR5.out) (bf HB)));(case side6=>repeat (first|exact (Kd.C_below HR1.out HB.out)|(with_reducible refine Kd.C_alloc ?_ _)|(with_reducible refine Kd.C_drewN ?_ _)|(with_reducible refine Kd.C_drew ?_)));(case side7=>exact HC1.out);intro w4 hb;replace BK0:=bb BK0 hb;replace HB:=bs HB hb;(try clear hb)))
 go_meet
 case rel=>exact ⟨_,(true),(aq),H',⟨by first|omega|exact Nat.le_refl _⟩,bu_ BK0,⟨bf HB⟩⟩}}
 case rest =>skip;{
 clear HC4
 (try clear c1);(try clear p2);(try clear c4);(try clear c5);(try clear c7);(try clear c8);(try clear c14);(try clear c16);(try clear c17);(try clear hcz0);(try clear hcz1);(try clear hcz9)
 obtain ⟨kq,x0,rfl,HA,HJ3,BK0,HB⟩:=hcut
 cases kq with
 | zero=>exact absurd HA.out (by simp [carrefourlaw11_CritGrows.j0])
 | succ kj3 =>skip;{
 have H:=HA.out
 clear HA
 simp only [carrefourlaw11_CritGrows.j0] at H
 by_cases c15:x0=true;{
 subst c15
 have H1:((carrefourlaw11_awake.f kj3).bind fun t1=>(some t1))=some r:=by rw [if_pos rfl] at H;exact H
 clear H
 have H:=H1
 clear H1
 replace H:=bi_ H;obtain ⟨t1,A7,H⟩:=H
 (try dsimp only at H)
 obtain rfl:=Option.some.inj H
 go_wp2_with (first|((with_reducible refine gc 6 rfl ?_);refine gm_ (some 31) rfl rfl Tryd.func6 (carrefourlaw11_awake.calls kj3 _ _ A7.out (tt GT)) ag ?_;intro w6 hb;replace BK0:=bb BK0 hb;replace HB:=bs HB hb;(try clear hb)))
 go_ret
 exact ⟨ae,bf HB⟩};{
 replace c15:=Bool.eq_false_iff.mpr c15
 subst c15
 have H1:((crit_Sum.f kj3 a0 l0 l2 l3 l4 l5 a1 l1).bind fun bt0=>((some (([]:List (S36)):List (S36))).bind fun y0=>(if y0.length+l1.length<8796093022208 then ((some (y0++l1:List (S36))).bind fun y1=>(if (l1.length:Int)=0 then (none) else (if 0≤(Int.tmod a2 (l1.length:Int)) then (if (Int.tmod a2 (l1.length:Int))<(y1.length:Int) then ((carrefourlaw11_f.f kj3 1 3).bind fun bt1=>((carrefourref02_Add.f kj3 ((rd_T36 y1 (Int.tmod a2 (l1.length:Int))).f0) ((rd_T36 y1 (Int.tmod a2 (l1.length:Int))).f1) bt1.1 bt1.2).bind fun bt2=>(if bt0.2.2.2=0 then (if bt2.2.2=0 then (if (Int.tmod a2 (l1.length:Int))<(l1.length:Int) then ((carrefourref02_Right.f kj3 ((rd_T36 l1 (Int.tmod a2 (l1.length:Int))).f0) ((rd_T36 l1 (Int.tmod a2 (l1.length:Int))).f1)).bind fun t2=>(carrefourlaw11_CritGrows.j1 kj3 l1 y1 (Int.tmod a2 (l1.length:Int)) (!t2) a0 l0 l2 l3 l4 l5 a1 bt0.1 bt0.2.1 bt0.2.2.1 bt2.1 bt2.2.1)) else (none)) else (carrefourlaw11_CritGrows.j1 kj3 l1 y1 (Int.tmod a2 (l1.length:Int)) true a0 l0 l2 l3 l4 l5 a1 bt0.1 bt0.2.1 bt0.2.2.1 bt2.1 bt2.2.1)) else (carrefourlaw11_CritGrows.j1 kj3 l1 y1 (Int.tmod a2 (l1.length:Int)) true a0 l0 l2 l3 l4 l5 a1 bt0.1 bt0.2.1 bt0.2.2.1 bt2.1 bt2.2.1)))) else (none)) else (none)))) else (none))))=some r:=by rw [if_neg (show ¬ (false=true) by decide)] at H;exact H
 clear H
 have H:=H1
 clear H1
 replace H:=bi_ H;obtain ⟨⟨t3,t4,t5,t6⟩,A8,H⟩:=H
 (try dsimp only at H)
 obtain ⟨y0,hy0⟩:∃ y_:List (S36),y_=(([]:List (S36))):=⟨_,rfl⟩
 replace H:(if y0.length+l1.length<8796093022208 then ((some (y0++l1:List (S36))).bind fun y1=>(if (l1.length:Int)=0 then (none) else (if 0≤(Int.tmod a2 (l1.length:Int)) then (if (Int.tmod a2 (l1.length:Int))<(y1.length:Int) then ((carrefourlaw11_f.f kj3 1 3).bind fun bt1=>((carrefourref02_Add.f kj3 ((rd_T36 y1 (Int.tmod a2 (l1.length:Int))).f0) ((rd_T36 y1 (Int.tmod a2 (l1.length:Int))).f1) bt1.1 bt1.2).bind fun bt2=>(if t6=0 then (if bt2.2.2=0 then (if (Int.tmod a2 (l1.length:Int))<(l1.length:Int) then ((carrefourref02_Right.f kj3 ((rd_T36 l1 (Int.tmod a2 (l1.length:Int))).f0) ((rd_T36 l1 (Int.tmod a2 (l1.length:Int))).f1)).bind fun t2=>(carrefourlaw11_CritGrows.j1 kj3 l1 y1 (Int.tmod a2 (l1.length:Int)) (!t2) a0 l0 l2 l3 l4 l5 a1 t3 t4 t5 bt2.1 bt2.2.1)) else (none)) else (carrefourlaw11_CritGrows.j1 kj3 l1 y1 (Int.tmod a2 (l1.length:Int)) true a0 l0 l2 l3 l4 l5 a1 t3 t4 t5 bt2.1 bt2.2.1)) else (carrefourlaw11_CritGrows.j1 kj3 l1 y1 (Int.tmod a2 (l1.length:Int)) true a0 l0 l2 l3 l4 l5 a1 t3 t4 t5 bt2.1 bt2.2.1)))) else (none)) else (none)))) else (none))=some r:=by first|(rw [hy0];with_reducible exact H)|(have H0:=(Option.bind_some _ _).symm.trans H;rw [hy0];with_reducible exact H0)|(have H0:=(Option.bind_some _ _).symm.trans H;with_reducible exact H0)|with_reducible exact H|(rw [hy0];exact H)|exact H
 have Ny0:=am hy0
 clear hy0
 by_cases c19:y0.length+l1.length<8796093022208;{
 rw [if_pos c19] at H
 have LMc0:=am c19
 clear c19
 obtain ⟨y1,hy1⟩:∃ y_:List (S36),y_=(y0++l1):=⟨_,rfl⟩
 replace H:(if (l1.length:Int)=0 then (none) else (if 0≤(Int.tmod a2 (l1.length:Int)) then (if (Int.tmod a2 (l1.length:Int))<(y1.length:Int) then ((carrefourlaw11_f.f kj3 1 3).bind fun bt1=>((carrefourref02_Add.f kj3 ((rd_T36 y1 (Int.tmod a2 (l1.length:Int))).f0) ((rd_T36 y1 (Int.tmod a2 (l1.length:Int))).f1) bt1.1 bt1.2).bind fun bt2=>(if t6=0 then (if bt2.2.2=0 then (if (Int.tmod a2 (l1.length:Int))<(l1.length:Int) then ((carrefourref02_Right.f kj3 ((rd_T36 l1 (Int.tmod a2 (l1.length:Int))).f0) ((rd_T36 l1 (Int.tmod a2 (l1.length:Int))).f1)).bind fun t2=>(carrefourlaw11_CritGrows.j1 kj3 l1 y1 (Int.tmod a2 (l1.length:Int)) (!t2) a0 l0 l2 l3 l4 l5 a1 t3 t4 t5 bt2.1 bt2.2.1)) else (none)) else (carrefourlaw11_CritGrows.j1 kj3 l1 y1 (Int.tmod a2 (l1.length:Int)) true a0 l0 l2 l3 l4 l5 a1 t3 t4 t5 bt2.1 bt2.2.1)) else (carrefourlaw11_CritGrows.j1 kj3 l1 y1 (Int.tmod a2 (l1.length:Int)) true a0 l0 l2 l3 l4 l5 a1 t3 t4 t5 bt2.1 bt2.2.1)))) else (none)) else (none)))=some r:=by first|(rw [hy1];with_reducible exact H)|(have H0:=(Option.bind_some _ _).symm.trans H;rw [hy1];with_reducible exact H0)|(have H0:=(Option.bind_some _ _).symm.trans H;with_reducible exact H0)|with_reducible exact H|(rw [hy1];exact H)|exact H
 have Ny1:=am hy1
 clear hy1
 by_cases c20:(l1.length:Int)=0;{
 rw [if_pos c20] at H
 exact absurd H (by simp)};{
 rw [if_neg c20] at H
 have c25:((l1.length:Int)==0)=false:=beq_eq_false_iff_ne.mpr c20
 have c26:((l1.length:Int) != 0)=true:=bne_iff_ne.mpr c20
 have c27:¬ (l1=[]):=fun h_=>c20 (by rw [h_];rfl)
 obtain ⟨ji0,hji0⟩:∃ j_:Int,(Int.tmod a2 (l1.length:Int))=j_:=⟨_,rfl⟩
 replace H:(if 0≤(ji0) then (if (ji0)<(y1.length:Int) then ((carrefourlaw11_f.f kj3 1 3).bind fun bt1=>((carrefourref02_Add.f kj3 ((rd_T36 y1 (ji0)).f0) ((rd_T36 y1 (ji0)).f1) bt1.1 bt1.2).bind fun bt2=>(if t6=0 then (if bt2.2.2=0 then (if (ji0)<(l1.length:Int) then ((carrefourref02_Right.f kj3 ((rd_T36 l1 (ji0)).f0) ((rd_T36 l1 (ji0)).f1)).bind fun t2=>(carrefourlaw11_CritGrows.j1 kj3 l1 y1 ji0 (!t2) a0 l0 l2 l3 l4 l5 a1 t3 t4 t5 bt2.1 bt2.2.1)) else (none)) else (carrefourlaw11_CritGrows.j1 kj3 l1 y1 ji0 true a0 l0 l2 l3 l4 l5 a1 t3 t4 t5 bt2.1 bt2.2.1)) else (carrefourlaw11_CritGrows.j1 kj3 l1 y1 ji0 true a0 l0 l2 l3 l4 l5 a1 t3 t4 t5 bt2.1 bt2.2.1)))) else (none)) else (none))=some r:=by first|(rw [hji0] at H;exact H)|(simp only [hji0] at H ⊢;exact H)
 (try rw [hji0] at A8)
 by_cases c22:0≤(ji0);{
 rw [if_pos c22] at H
 have c29:decide (0≤(ji0))=true:=decide_eq_true c22
 clear c22
 by_cases c23:(ji0)<(y1.length:Int);{
 rw [if_pos c23] at H
 have c32:decide ((ji0)<(y1.length:Int))=true:=decide_eq_true c23
 clear c23
 replace H:=bi_ H;obtain ⟨⟨t7,t8⟩,A9,H⟩:=H
 (try dsimp only at H)
 replace H:=bi_ H;obtain ⟨⟨t9,t10,t11⟩,A25,H⟩:=H
 (try dsimp only at H)
 have HC7:=am H
 clear H
 have hcz2:=X.k7 BK0
 try go_wp2_with (first|((with_reducible refine gc 7 rfl ?_);refine gl_ (some 35) rfl rfl Tryd.func7 ((crit_Sum.calls kj3 _ _ _ _ _ _ _ _ _ _ _ _ _ _ _ _ _ _ _ _ _ _ _ _ _ ?side1 ?side2 ?side3 ?side4 ?side5 ?side6 ?side7 ?side8 ?side9 ?side10 ?side11 ?side12 A8.out (tt GT)).mono ?_) ag;(case side1=>repeat (first|exact (Kd.C_below HR0.out HB.out)|(with_reducible refine Kd.C_alloc ?_ _)|(with_reducible refine Kd.C_drewN ?_ _)|(with_reducible refine Kd.C_drew ?_)));(case side2=>exact HC0.out);(case side3=>repeat (first|exact (Kd.C_below HR2.out HB.out)|(with_reducible refine Kd.C_alloc ?_ _)|(with_reducible refine Kd.C_drewN ?_ _)|(with_reducible refine Kd.C_drew ?_)));(case side4=>exact HC2.out);(case side5=>repeat (first|exact (Kd.C_below HR3.out HB.out)|(with_reducible refine Kd.C_alloc ?_ _)|(with_reducible refine Kd.C_drewN ?_ _)|(with_reducible refine Kd.C_drew ?_)));(case side6=>exact HC3.out);(case side7=>repeat (first|exact (Kd.C_below HR4.out HB.out)|(with_reducible refine Kd.C_alloc ?_ _)|(with_reducible refine Kd.C_drewN ?_ _)|(with_reducible refine Kd.C_drew ?_)));(case side8=>exact HC5.out);(case side9=>repeat (first|exact (Kd.C_below HR5.out HB.out)|(with_reducible refine Kd.C_alloc ?_ _)|(with_reducible refine Kd.C_drewN ?_ _)|(with_reducible refine Kd.C_drew ?_)));(case side10=>exact HC6.out);(case side11=>repeat (first|exact (Kd.C_below HR1.out HB.out)|(with_reducible refine Kd.C_alloc ?_ _)|(with_reducible refine Kd.C_drewN ?_ _)|(with_reducible refine Kd.C_drew ?_)));(case side12=>exact HC1.out);rintro e w7 ⟨v1,rfl,ho0,hb⟩;refine ⟨_,rfl,?_⟩;have HO0:=am (Kd.R_lower ho0 (below_size (bf HB)));replace BK0:=bb BK0 hb;replace HB:=bs HB hb;(try clear hb);(try clear ho0))|((with_reducible refine gate_dst (N:=7) rfl ?_);(try (refine gate_guard (by rfl) ?_;dsimp only));refine box_event ?hg (N:=7) ?hd (cs:=#[.int .i64 0,.int .i64 0,.slice none 0 0]) (t:=39) ?hr ?_;(case hd=>rfl);(case hg=>rfl);(case hr=>first|(go_simp;done)|(go_simp;rfl));intro gb1 hg w8 hbox hb;have BK1:=am (hbox);have GE1:=bz HB hg;have ⟨NB0,NB1⟩:=nb BK0 hg;replace HO0:=rb HO0 hb;replace BK0:=bb BK0 hb;replace HB:=bs HB hb;clear hb hg;have hnb0:=nn NB1;have hcz3:=X.k3 BK1;obtain ⟨Ao0,co0,eo0⟩:=Kd.R_slice HO0.out;subst eo0)|((with_reducible refine gate_dst (N:=38) rfl ?_);(try (refine gate_guard (by rfl) ?_;dsimp only));refine Kd.R_lit k36 _ 36 ?hg (N:=38) ?hd (xs:=([]:List (S36))) (inner:=[]) (ok:=fun _=>True) (okp:=fun _=>True) ?hr ?hp (fun _ hk=>hk) trivial (Below.refl _ _) (Nat.le_refl _) (by simp) ?_;(case hd=>rfl);(case hg=>rfl);(case hr=>first|(go_simp;done)|(go_simp;rfl));(case hp=>exact (Reps.none _ _));intro v2 w9 ho1 hb hg_ hnew_;clear hg_ hnew_;(first|rw [← Ny0.out] at ho1|(simp only [Int.reduceToNat] at ho1;rw [← Ny0.out] at ho1));have HO1:=am (Kd.R_lower ho1 (below_size (bf HB)));replace HO0:=am (Kd.R_below (Rt_ (Kd.R_mono (Kd.R_far (p:=⟨gb1,2,none⟩) (Kd.R_far (p:=⟨gb1,1,none⟩) (Kd.R_far (p:=⟨gb1,0,none⟩) (Kd.R_types HO0.out BK1.out (by decide)) (fun _ hk=>hk.2) (.int .i64 t3)) (fun _ hk=>hk.2) (.int .i64 t4)) (fun _ hk=>hk.2) (.slice Ao0 t5.length co0)) (fun _ h_=>h_.1))) hb);replace BK0:=bb BK0 hb;replace BK1:=bp_ #[.int .i64 t3,.int .i64 t4,.slice Ao0 t5.length co0] BK1 hb;replace HB:=bs HB hb;clear hb ho1)|((with_reducible refine gate_builtin (b:=.append) (xs:=#[.tmp 38,.tmp 39]) rfl ?_);(try (refine gate_guard (by rfl) ?_;dsimp only));at_builtin;refine Kd.R_append_rows k36 (w0:=w) w.heap.size rfl (.tmp 38) (.tmp 39) 29 36 (.agg #[(.int .i64 0),(.int .i64 0)]) 16 rfl Tryd.underlying29 info36 rfl (by decide) (by omega) v2 y0 l1 _ _ _ (fun _=>True) (fun _=>False) rfl rfl ?aO ?aR (fun _ _ h=>h) (fun _ h=>h.elim) ?aF ?aB ?aS ?aL ?_;(case aR=>repeat (first|exact (Kd.C_below HR1.out HB.out)|(with_reducible refine Kd.C_alloc ?_ _)|(with_reducible refine Kd.C_drewN ?_ _)|(with_reducible refine Kd.C_drew ?_)));(case aB=>exact (bf HB));(case aF=>exact (fun _ _=>trivial));(case aO=>exact (Rt_ HO1.out));(case aS=>exact (below_size (bf HB)));(case aL=>have:=LMc0.out;omega);intro v3 w35 ho hb hg hat;rw [← Ny1.out] at ho;have n0:=am (blk_grown (g:=gb0) (o:=.cells #[.string a0,.slice A0 l0.length c0,.slice A2 l2.length c2,.slice A3 l3.length c9,.slice A4 l4.length c10,.slice A5 l5.length c11,.int .i64 a1] 28 (0,0)) (bx BK0) hg (Kd.R_ne HO1.out BK0.out (by decide)));have n1:=am (Kd.R_over' (Rt_ HO0.out) (Kd.R_typed (Rt_ HO1.out)) (by decide) hg);have n2:=am (blk_grown (g:=gb1) (o:=.cells #[.int .i64 t3,.int .i64 t4,.slice Ao0 t5.length co0] 39 (0,0)) (bx BK1) hg (Kd.R_ne HO1.out BK1.out (by decide)));have n3:=am (hb);have n4:=am (ho);clear BK0;clear HO0;clear BK1;clear HB;clear HO1;have BK0:=n0;have HO0:=n1;have BK1:=n2;have HB:=n3;have HO2:=n4;clear n0 n1 n2 n3 n4;clear ho hb hg hat))
 replace HO0:=am (Kd.R_drew HO0.out)
 replace HO2:=am (Kd.R_drew HO2.out)
 replace BK0:=am (blk_drew BK0.out)
 replace BK1:=am (blk_drew BK1.out)
 replace HB:=am (below_drew1 HB.out)
 obtain ⟨Ao1,co1,eo1⟩:=Kd.R_slice HO2.out
 (first|subst eo1|(injection eo1 with f1_ f2_ f3_;have f4_:=f1_.symm;have f5_:=f3_.symm;clear f1_ f2_ f3_;subst f4_;subst f5_))
 have p0:0≤((ji0):Int):=od_
 have q0:(ji0)<(y1.length:Int):=od_
 obtain ⟨ad0,e0,hx0,hx1⟩:=at_T36 (Kd.R_reads' HO2.out).2.2 (ji0) p0 q0
 cases e0
 replace p0:=eq_true p0
 replace q0:=eq_true q0
 refine start_ (n:=12) (S:=fun w'=>w'.cell? (ad0.add (((ji0)).toNat*2))=some (.int .i64 ((rd_T36 y1 (ji0)).f0))∧w'.cell? ⟨(ad0.add (((ji0)).toNat*2)).block,(ad0.add (((ji0)).toNat*2)).off+1,none⟩=some (.int .i64 ((rd_T36 y1 (ji0)).f1))) (ds:=[]) (m_ 12 0) (by kernel_rfl) rfl rfl ⟨hx0,hx1⟩ (fun hHeld=>?_);refine with_tabW carrefourlaw11_CritGrows.tab6 carrefourlaw11_CritGrows.bits6 (fun HT_ HW_=>?_)
 generalize w35.drew=w36 at HO0 HO2 BK0 BK1 HB hx0 hx1 hHeld ⊢
 refine pu_ 0 (some 46) (m_ 12 1) rfl rfl (ao HT_) ?_
 refine pu_ 1 (some 47) (m_ 12 3) rfl rfl (ao HT_) ?_
 refine pu_ 2 (some 48) (m_ 12 7) rfl rfl (ao HT_) ?_
 refine tk_ 3 (some 49) (m_ 12 15) rfl rfl (tw HT_ HW_) hHeld ?_
 refine join_ (σ:=Nat) 2 (m_ 12 1023) (fun s_=>[(50,.agg #[.int .i64 t7,.int .i64 t8]),(51,.tuple #[.agg #[.int .i64 t9,.int .i64 t10],.int .i64 t11]),(11,.pointer (some ⟨s_,0,none⟩)),(45,.tuple #[.agg #[.int .i64 t9,.int .i64 t10],.int .i64 t11]),(52,.agg #[.int .i64 t9,.int .i64 t10]),(53,.int .i64 t11)]) (fun s_ w'=>(w'.cell? (ad0.add (((ji0)).toNat*2))=some (.int .i64 ((rd_T36 y1 (ji0)).f0))∧w'.cell? ⟨(ad0.add (((ji0)).toNat*2)).block,(ad0.add (((ji0)).toNat*2)).off+1,none⟩=some (.int .i64 ((rd_T36 y1 (ji0)).f1)))∧(Kd.R (Kd.int .i64) 3 w' w.heap.size (fun _=>True) (.slice Ao0 t5.length co0) t5)∧(Kd.R k36 36 w' w.heap.size (fun k_=>k_≠s_) (.slice (some ad0) y1.length co1) y1)∧(w'.heap[gb0]?=some (.cells #[.string a0,.slice A0 l0.length c0,.slice A2 l2.length c2,.slice A3 l3.length c9,.slice A4 l4.length c10,.slice A5 l5.length c11,.int .i64 a1] 28 (0,0)))∧(w'.heap[gb1]?=some (.cells #[.int .i64 t3,.int .i64 t4,.slice Ao0 t5.length co0] 39 (0,0)))∧(w'.heap[s_]?=some (.cells #[.int .i64 0,.int .i64 0] 36 (0,0)))∧(w.heap.size≤s_)∧(w.heap.size≤s_)∧(gb0≠s_)∧(s_≠gb0)∧(gb1≠s_)∧(s_≠gb1)∧(Below w.heap.size w w')) ?_ ?_
 rotate_left;{
 intro hCont
 refine two_ (i:=4) (j:=9) (Ni:=some 50) (Nj:=some 11) (m_ 12 31) (m_ 12 527) rfl rfl rfl rfl (two_of HT_.out (by kernel_rfl)) (by decide) (by decide) (fun K hK=>?_) (fun K hK=>?_);{
 skip
 refine goes_ Tryd.func13 (by kernel_rfl) rfl #[.int .i64 1,.int .i64 3] (by rfl) rfl rfl ag ?_
 with_reducible refine (carrefourlaw11_f.calls kj3 _ _ _ _ _ A9.out).mono ?_
 rintro e w38 ⟨rfl,hb⟩
 have HS0:=(hb.cell (World.block_lt_of_cell? _ _ (hHeld.1))).trans (hHeld.1)
 have HS1:=(hb.cell (World.block_lt_of_cell? _ _ (hHeld.2))).trans (hHeld.2)
 refine ⟨_,rfl,?_⟩
 replace HO0:=rb HO0 hb
 replace HO2:=rb HO2 hb
 replace BK0:=bb BK0 hb
 replace BK1:=bb BK1 hb
 replace HB:=bs HB hb
 (try clear hb)
 refine hK.out _ _ ⟨HS0,HS1⟩ (fun hHeld=>?_)
 clear hK K
 refine nr_ (some 50) ?_
 refine two_ (i:=5) (j:=9) (Ni:=some 51) (Nj:=some 11) (m_ 12 63) (m_ 12 543) rfl rfl rfl rfl (two_of HT_.out (by kernel_rfl)) (by decide) (by decide) (fun K hK=>?_) (fun K hK=>?_);{
 skip
 refine goes_ Tryd.func12 (by kernel_rfl) rfl #[.agg #[.int .i64 ((rd_T36 y1 (ji0)).f0),.int .i64 ((rd_T36 y1 (ji0)).f1)],.agg #[.int .i64 t7,.int .i64 t8]] (by rfl) rfl rfl (by (try simp only [List.map_toArray,List.map_cons,List.map_nil]);first|done|(simp only [hji0];rfl)|rfl|(simp only [List.length_drop,List.length_take];rfl)) ?_
 with_reducible refine (carrefourref02_Add.calls kj3 ((rd_T36 y1 (ji0)).f0) ((rd_T36 y1 (ji0)).f1) _ _ _ _ _ _ A25.out).mono ?_
 rintro e w39 ⟨rfl,hb⟩
 have HS0:=(hb.cell (World.block_lt_of_cell? _ _ (hHeld.1))).trans (hHeld.1)
 have HS1:=(hb.cell (World.block_lt_of_cell? _ _ (hHeld.2))).trans (hHeld.2)
 refine ⟨_,rfl,?_⟩
 replace HO0:=rb HO0 hb
 replace HO2:=rb HO2 hb
 replace BK0:=bb BK0 hb
 replace BK1:=bb BK1 hb
 replace HB:=bs HB hb
 (try clear hb)
 refine hK.out _ _ ⟨HS0,HS1⟩ (fun hHeld=>?_)
 clear hK K
 refine nr_ (some 51) ?_
 refine pu_ 6 (some 45) (m_ 12 127) rfl rfl (ao HT_) ?_
 refine pu_ 7 (some 52) (m_ 12 255) rfl rfl (ao HT_) ?_
 refine pu_ 8 (some 53) (m_ 12 511) rfl rfl (ao HT_) ?_
 refine o1_ 9 (some 11) (m_ 12 1023) rfl rfl (oo HT_) (fun K hK=>?_)
 refine box_step ?hg (N:=11) ?hd (cs:=#[.int .i64 0,.int .i64 0]) (t:=36) ?hr ?_;(case hd=>rfl);(case hg=>rfl);(case hr=>first|(go_simp;done)|(go_simp;rfl))
 intro gb2 hg w40 hbox hb
 have HS0:=(hb.cell (World.block_lt_of_cell? _ _ (hHeld.1))).trans (hHeld.1)
 have HS1:=(hb.cell (World.block_lt_of_cell? _ _ (hHeld.2))).trans (hHeld.2)
 have BK2:=am (hbox)
 have GW0:=bz HB hg
 have GE2:=bz HB hg
 have NB2:=bl BK0 hg
 have NB3:=bg BK0 hg
 have NB4:=bl BK1 hg
 have NB5:=bg BK1 hg
 replace HO0:=rb HO0 hb
 replace HO2:=am (Kd.R_below (Kd.R_elderB (Rt_ HO2.out) gb2 (Nat.le_of_eq hg.symm)) hb)
 replace BK0:=bb BK0 hb
 replace BK1:=bb BK1 hb
 replace HB:=bs HB hb
 clear hb hg
 refine hK.out _ _ ⟨HS0,HS1⟩ (fun hHeld=>?_)
 clear hK K
 refine nr_ (some 11) ?_
 exact norm_ (by simp only [putAll,Act.put,si,s0,s1]) (hCont (gb2) _ ⟨hHeld,(Rt_ HO0.out),(Rt_ (Kd.R_mono HO2.out (fun _ hk=>hk.2))),(bx BK0),(bx BK1),(bx BK2),GW0.out,GE2.out,NB2.out,NB3.out,NB4.out,NB5.out,(bf HB)⟩)};{
 skip
 refine box_step ?hg (N:=11) ?hd (cs:=#[.int .i64 0,.int .i64 0]) (t:=36) ?hr ?_;(case hd=>rfl);(case hg=>rfl);(case hr=>first|(go_simp;done)|(go_simp;rfl))
 intro gb2 hg w39 hbox hb
 have HS0:=(hb.cell (World.block_lt_of_cell? _ _ (hHeld.1))).trans (hHeld.1)
 have HS1:=(hb.cell (World.block_lt_of_cell? _ _ (hHeld.2))).trans (hHeld.2)
 have BK2:=am (hbox)
 have GW0:=bz HB hg
 have GE2:=bz HB hg
 have NB2:=bl BK0 hg
 have NB3:=bg BK0 hg
 have NB4:=bl BK1 hg
 have NB5:=bg BK1 hg
 replace HO0:=rb HO0 hb
 replace HO2:=am (Kd.R_below (Kd.R_elderB (Rt_ HO2.out) gb2 (Nat.le_of_eq hg.symm)) hb)
 replace BK0:=bb BK0 hb
 replace BK1:=bb BK1 hb
 replace HB:=bs HB hb
 clear hb hg
 refine hK.out _ _ ⟨HS0,HS1⟩ (fun hHeld=>?_)
 clear hK K
 refine nr_ (some 11) ?_
 refine o1_ 5 (some 51) (m_ 12 575) rfl rfl (oo HT_) (fun K hK=>?_)
 refine goes_ Tryd.func12 (by kernel_rfl) rfl #[.agg #[.int .i64 ((rd_T36 y1 (ji0)).f0),.int .i64 ((rd_T36 y1 (ji0)).f1)],.agg #[.int .i64 t7,.int .i64 t8]] (by rfl) rfl rfl (by (try simp only [List.map_toArray,List.map_cons,List.map_nil]);first|done|(simp only [hji0];rfl)|rfl|(simp only [List.length_drop,List.length_take];rfl)) ?_
 with_reducible refine (carrefourref02_Add.calls kj3 ((rd_T36 y1 (ji0)).f0) ((rd_T36 y1 (ji0)).f1) _ _ _ _ _ _ A25.out).mono ?_
 rintro e w40 ⟨rfl,hb⟩
 have HS0:=(hb.cell (World.block_lt_of_cell? _ _ (hHeld.1))).trans (hHeld.1)
 have HS1:=(hb.cell (World.block_lt_of_cell? _ _ (hHeld.2))).trans (hHeld.2)
 refine ⟨_,rfl,?_⟩
 replace HO0:=rb HO0 hb
 replace HO2:=rb HO2 hb
 replace BK0:=bb BK0 hb
 replace BK1:=bb BK1 hb
 replace BK2:=bb BK2 hb
 replace HB:=bs HB hb
 (try clear hb)
 refine hK.out _ _ ⟨HS0,HS1⟩ (fun hHeld=>?_)
 clear hK K
 refine nr_ (some 51) ?_
 refine pu_ 6 (some 45) (m_ 12 639) rfl rfl (ao HT_) ?_
 refine pu_ 7 (some 52) (m_ 12 767) rfl rfl (ao HT_) ?_
 refine pu_ 8 (some 53) (m_ 12 1023) rfl rfl (ao HT_) ?_
 exact norm_ (by simp only [putAll,Act.put,si,s0,s1]) (hCont (gb2) _ ⟨hHeld,(Rt_ HO0.out),(Rt_ (Kd.R_mono HO2.out (fun _ hk=>hk.2))),(bx BK0),(bx BK1),(bx BK2),GW0.out,GE2.out,NB2.out,NB3.out,NB4.out,NB5.out,(bf HB)⟩)}};{
 skip
 refine box_step ?hg (N:=11) ?hd (cs:=#[.int .i64 0,.int .i64 0]) (t:=36) ?hr ?_;(case hd=>rfl);(case hg=>rfl);(case hr=>first|(go_simp;done)|(go_simp;rfl))
 intro gb2 hg w38 hbox hb
 have HS0:=(hb.cell (World.block_lt_of_cell? _ _ (hHeld.1))).trans (hHeld.1)
 have HS1:=(hb.cell (World.block_lt_of_cell? _ _ (hHeld.2))).trans (hHeld.2)
 have BK2:=am (hbox)
 have GW0:=bz HB hg
 have GE2:=bz HB hg
 have NB2:=bl BK0 hg
 have NB3:=bg BK0 hg
 have NB4:=bl BK1 hg
 have NB5:=bg BK1 hg
 replace HO0:=rb HO0 hb
 replace HO2:=am (Kd.R_below (Kd.R_elderB (Rt_ HO2.out) gb2 (Nat.le_of_eq hg.symm)) hb)
 replace BK0:=bb BK0 hb
 replace BK1:=bb BK1 hb
 replace HB:=bs HB hb
 clear hb hg
 refine hK.out _ _ ⟨HS0,HS1⟩ (fun hHeld=>?_)
 clear hK K
 refine nr_ (some 11) ?_
 refine o1_ 4 (some 50) (m_ 12 543) rfl rfl (oo HT_) (fun K hK=>?_)
 refine goes_ Tryd.func13 (by kernel_rfl) rfl #[.int .i64 1,.int .i64 3] (by rfl) rfl rfl ag ?_
 with_reducible refine (carrefourlaw11_f.calls kj3 _ _ _ _ _ A9.out).mono ?_
 rintro e w39 ⟨rfl,hb⟩
 have HS0:=(hb.cell (World.block_lt_of_cell? _ _ (hHeld.1))).trans (hHeld.1)
 have HS1:=(hb.cell (World.block_lt_of_cell? _ _ (hHeld.2))).trans (hHeld.2)
 refine ⟨_,rfl,?_⟩
 replace HO0:=rb HO0 hb
 replace HO2:=rb HO2 hb
 replace BK0:=bb BK0 hb
 replace BK1:=bb BK1 hb
 replace BK2:=bb BK2 hb
 replace HB:=bs HB hb
 (try clear hb)
 refine hK.out _ _ ⟨HS0,HS1⟩ (fun hHeld=>?_)
 clear hK K
 refine nr_ (some 50) ?_
 refine o1_ 5 (some 51) (m_ 12 575) rfl rfl (oo HT_) (fun K hK=>?_)
 refine goes_ Tryd.func12 (by kernel_rfl) rfl #[.agg #[.int .i64 ((rd_T36 y1 (ji0)).f0),.int .i64 ((rd_T36 y1 (ji0)).f1)],.agg #[.int .i64 t7,.int .i64 t8]] (by rfl) rfl rfl (by (try simp only [List.map_toArray,List.map_cons,List.map_nil]);first|done|(simp only [hji0];rfl)|rfl|(simp only [List.length_drop,List.length_take];rfl)) ?_
 with_reducible refine (carrefourref02_Add.calls kj3 ((rd_T36 y1 (ji0)).f0) ((rd_T36 y1 (ji0)).f1) _ _ _ _ _ _ A25.out).mono ?_
 rintro e w40 ⟨rfl,hb⟩
 have HS0:=(hb.cell (World.block_lt_of_cell? _ _ (hHeld.1))).trans (hHeld.1)
 have HS1:=(hb.cell (World.block_lt_of_cell? _ _ (hHeld.2))).trans (hHeld.2)
 refine ⟨_,rfl,?_⟩
 replace HO0:=rb HO0 hb
 replace HO2:=rb HO2 hb
 replace BK0:=bb BK0 hb
 replace BK1:=bb BK1 hb
 replace BK2:=bb BK2 hb
 replace HB:=bs HB hb
 (try clear hb)
 refine hK.out _ _ ⟨HS0,HS1⟩ (fun hHeld=>?_)
 clear hK K
 refine nr_ (some 51) ?_
 refine pu_ 6 (some 45) (m_ 12 639) rfl rfl (ao HT_) ?_
 refine pu_ 7 (some 52) (m_ 12 767) rfl rfl (ao HT_) ?_
 refine pu_ 8 (some 53) (m_ 12 1023) rfl rfl (ao HT_) ?_
 exact norm_ (by simp only [putAll,Act.put,si,s0,s1]) (hCont (gb2) _ ⟨hHeld,(Rt_ HO0.out),(Rt_ (Kd.R_mono HO2.out (fun _ hk=>hk.2))),(bx BK0),(bx BK1),(bx BK2),GW0.out,GE2.out,NB2.out,NB3.out,NB4.out,NB5.out,(bf HB)⟩)}}
 rintro gb2 w41 ⟨hS_,h0,h1,h2,h3,h4,h5,h6,h7,h8,h9,h10,h11⟩
 have n0:Aside0 (Kd.R (Kd.int .i64) 3 w41 w.heap.size (fun _=>True) (.slice Ao0 t5.length co0) t5):=⟨h0⟩
 have n1:Aside0 (Kd.R k36 36 w41 w.heap.size (fun k_=>k_≠gb2) (.slice (some ad0) y1.length co1) y1):=⟨h1⟩
 have n2:Aside0 (w41.heap[gb0]?=some (.cells #[.string a0,.slice A0 l0.length c0,.slice A2 l2.length c2,.slice A3 l3.length c9,.slice A4 l4.length c10,.slice A5 l5.length c11,.int .i64 a1] 28 (0,0))):=⟨h2⟩
 have n3:Aside0 (w41.heap[gb1]?=some (.cells #[.int .i64 t3,.int .i64 t4,.slice Ao0 t5.length co0] 39 (0,0))):=⟨h3⟩
 have n4:Aside0 (w41.heap[gb2]?=some (.cells #[.int .i64 0,.int .i64 0] 36 (0,0))):=⟨h4⟩
 have n5:Aside0 (w.heap.size≤gb2):=⟨h5⟩
 have n6:Aside0 (w.heap.size≤gb2):=⟨h6⟩
 have n7:Aside0 (gb0≠gb2):=⟨h7⟩
 have n8:Aside0 (gb2≠gb0):=⟨h8⟩
 have n9:Aside0 (gb1≠gb2):=⟨h9⟩
 have n10:Aside0 (gb2≠gb1):=⟨h10⟩
 have n11:Aside0 (Below w.heap.size w w41):=⟨h11⟩
 clear HO0
 clear HO2
 clear BK0
 clear BK1
 clear HB
 clear h0 h1 h2 h3 h4 h5 h6 h7 h8 h9 h10 h11
 have HO0:=n0
 have HO2:=n1
 have BK0:=n2
 have BK1:=n3
 have BK2:=n4
 have GW0:=n5
 have GE2:=n6
 have NB2:=n7
 have NB3:=n8
 have NB4:=n9
 have NB5:=n10
 have HB:=n11
 clear n0 n1 n2 n3 n4 n5 n6 n7 n8 n9 n10 n11
 have hHeld:w41.cell? (ad0.add (((ji0)).toNat*2))=some (.int .i64 ((rd_T36 y1 (ji0)).f0))∧w41.cell? ⟨(ad0.add (((ji0)).toNat*2)).block,(ad0.add (((ji0)).toNat*2)).off+1,none⟩=some (.int .i64 ((rd_T36 y1 (ji0)).f1)):=hS_
 refine norm_ (a':=?_) ?_ ?_
 rotate_left;{
 simp only [putAll,Act.put,si,s0,s1]
 rfl}
 refine o1_ 10 (none) (m_ 12 2047) rfl rfl (oo HT_) (fun K hK=>?_)
 have hs0:c_ w41 gb2 0 (.int .i64 0):=ct BK2 0
 have hfs0:=blk_frozen BK2.out 0
 have hns0:=NB2.out
 have hns1:=NB4.out
 have hms0:=NB3.out
 have hms1:=NB5.out
 have hs1:c_ w41 gb2 1 (.int .i64 0):=ct BK2 1
 have hfs1:=blk_frozen BK2.out 1
 have hns2:=NB2.out
 have hns3:=NB4.out
 have hms2:=NB3.out
 have hms3:=NB5.out
 refine skip_ (w1:=?_) (by rfl) rfl ?_ ?_
 rotate_left;{
 go_simp
 rfl}
 refine hK.out _ _ ⟨((cell_far (p:=⟨gb2,_,none⟩) (by first|exact Kd.own_blk (Kd.R_away HO2.out (fun _ hk=>hk))|(rw [add_block];exact Kd.own_blk (Kd.R_away HO2.out (fun _ hk=>hk)))|(show (Addr.add _ _).block≠_;rw [add_block];exact Kd.own_blk (Kd.R_away HO2.out (fun _ hk=>hk)))|(dsimp only;exact Kd.own_blk (Kd.R_away HO2.out (fun _ hk=>hk)))) _).trans (((cell_far (p:=⟨gb2,_,none⟩) (by first|exact Kd.own_blk (Kd.R_away HO2.out (fun _ hk=>hk))|(rw [add_block];exact Kd.own_blk (Kd.R_away HO2.out (fun _ hk=>hk)))|(show (Addr.add _ _).block≠_;rw [add_block];exact Kd.own_blk (Kd.R_away HO2.out (fun _ hk=>hk)))|(dsimp only;exact Kd.own_blk (Kd.R_away HO2.out (fun _ hk=>hk)))) _).trans (hHeld.1)))),((cell_far (p:=⟨gb2,_,none⟩) (by first|exact Kd.own_blk (Kd.R_away HO2.out (fun _ hk=>hk))|(rw [add_block];exact Kd.own_blk (Kd.R_away HO2.out (fun _ hk=>hk)))|(show (Addr.add _ _).block≠_;rw [add_block];exact Kd.own_blk (Kd.R_away HO2.out (fun _ hk=>hk)))|(dsimp only;exact Kd.own_blk (Kd.R_away HO2.out (fun _ hk=>hk)))) _).trans (((cell_far (p:=⟨gb2,_,none⟩) (by first|exact Kd.own_blk (Kd.R_away HO2.out (fun _ hk=>hk))|(rw [add_block];exact Kd.own_blk (Kd.R_away HO2.out (fun _ hk=>hk)))|(show (Addr.add _ _).block≠_;rw [add_block];exact Kd.own_blk (Kd.R_away HO2.out (fun _ hk=>hk)))|(dsimp only;exact Kd.own_blk (Kd.R_away HO2.out (fun _ hk=>hk)))) _).trans (hHeld.2))))⟩ (fun hHeld=>?_)
 clear hK K
 refine pu_ 11 (some 12) (m_ 12 4095) rfl rfl (ao HT_) ?_
 refine done_ (done_of HT_.out (by kernel_rfl)) ?_
 go_upto_region 7 with (fail)
 go_cut [67] (fun v4 wc=>∃ (kq:Nat) (x1:Bool),v4=.bool x1∧Aside0 (carrefourlaw11_CritGrows.j1 kq l1 y1 ji0 x1 a0 l0 l2 l3 l4 l5 a1 t3 t4 t5 t9 t10=some r)∧Aside0 (kq≤kj3)∧Aside0 (Kd.R k36 36 wc w.heap.size (fun k_=>k_≠gb2) (.slice (some ad0) y1.length co1) y1)∧Aside0 (Kd.R (Kd.int .i64) 3 wc w.heap.size (fun _=>True) (.slice Ao0 t5.length co0) t5)∧Aside0 (wc.heap[gb0]?=some (.cells #[.string a0,(.slice A0 l0.length c0),(.slice A2 l2.length c2),(.slice A3 l3.length c9),(.slice A4 l4.length c10),(.slice A5 l5.length c11),.int .i64 a1] 28 (0,0)))∧Aside0 (wc.heap[gb1]?=some (.cells #[.int .i64 t3,.int .i64 t4,(.slice Ao0 t5.length co0)] 39 (0,0)))∧Aside0 (wc.heap[gb2]?=some (.cells #[.int .i64 t9,.int .i64 t10] 36 (0,0)))∧Aside0 (Below w.heap.size w wc))
 case first =>skip;{
 have H:=HC7.out
 clear HC7
 by_cases c44:t6=0;{
 rw [if_pos c44] at H
 have c34:(t6==0)=true:=beq_iff_eq.mpr c44
 have c35:(t6 != 0)=false:=bne_eq_false_iff_eq.mpr c44
 clear c44
 (first|rw [c34]|(simp only [i64_w,i32_w];rw [c34])|skip)
 by_cases c45:t11=0;{
 rw [if_pos c45] at H
 have c37:(t11==0)=true:=beq_iff_eq.mpr c45
 have c38:(t11 != 0)=false:=bne_eq_false_iff_eq.mpr c45
 clear c45
 by_cases c46:(ji0)<(l1.length:Int);{
 rw [if_pos c46] at H
 have c40:decide ((ji0)<(l1.length:Int))=true:=decide_eq_true c46
 clear c46
 replace H:=bi_ H;obtain ⟨t2,A47,H⟩:=H
 (try dsimp only at H)
 have H':=am H
 clear H
 have p1:0≤((ji0):Int):=od_
 have q1:(ji0)<(l1.length:Int):=od_
 obtain ⟨ad1,e1,hx2,hx3⟩:=at_T36 HR1.out (ji0) p1 q1
 cases e1
 have hn0:ad1.block≠gb2:=Nat.ne_of_lt (Nat.lt_of_lt_of_le (by have:=World.block_lt_of_cell? _ _ hx2;first|rwa [add_block] at this|exact this) GW0.out)
 have hn1:ad1.block≠gb2:=Nat.ne_of_lt (Nat.lt_of_lt_of_le (by have:=World.block_lt_of_cell? _ _ hx2;first|rwa [add_block] at this|exact this) GW0.out)
 replace hx2:=hx_ HB hx2
 replace hx3:=hx_ HB hx3
 replace hx2:=(cell_far (p:=⟨gb2,0,none⟩) (by first|(rw [add_block];exact hn0)|(show (Addr.add _ _).block≠_;rw [add_block];exact hn0)|exact hn0) (.int .i64 t9)).trans hx2
 replace hx3:=(cell_far (p:=⟨gb2,0,none⟩) (by first|(rw [add_block];exact hn0)|(show (Addr.add _ _).block≠_;rw [add_block];exact hn0)|exact hn0) (.int .i64 t9)).trans hx3
 replace hx2:=(cell_far (p:=⟨gb2,1,none⟩) (by first|(rw [add_block];exact hn1)|(show (Addr.add _ _).block≠_;rw [add_block];exact hn1)|exact hn1) (.int .i64 t10)).trans hx2
 replace hx3:=(cell_far (p:=⟨gb2,1,none⟩) (by first|(rw [add_block];exact hn1)|(show (Addr.add _ _).block≠_;rw [add_block];exact hn1)|exact hn1) (.int .i64 t10)).trans hx3
 clear hn0
 clear hn1
 replace p1:=eq_true p1
 replace q1:=eq_true q1
 go_wp2_with (first|(go_at_call 14;(with_reducible refine (carrefourref02_Right.calls kj3 ((rd_T36 l1 (ji0)).f0) ((rd_T36 l1 (ji0)).f1) _ _ A47.out).mono ?_);rintro e w48 ⟨rfl,hb⟩;replace HO0:=am (Kd.R_below (Rt_ (Kd.R_mono (Kd.R_far (p:=⟨gb2,1,none⟩) (Kd.R_far (p:=⟨gb2,0,none⟩) (Kd.R_types HO0.out BK2.out (by decide)) (fun _ hk=>hk.2) (.int .i64 t9)) (fun _ hk=>hk.2) (.int .i64 t10)) (fun _ h_=>h_.1))) hb);replace HO2:=am (Kd.R_below (Rt_ (Kd.R_mono (Kd.R_far (p:=⟨gb2,1,none⟩) (Kd.R_far (p:=⟨gb2,0,none⟩) (Kd.R_mono HO2.out (fun k_ hk=>(⟨hk,hk⟩:_∧k_≠gb2))) (fun _ hk=>hk.2) (.int .i64 t9)) (fun _ hk=>hk.2) (.int .i64 t10)) (fun _ h_=>h_.1))) hb);replace BK0:=bb BK0 hb;replace BK1:=bb BK1 hb;replace BK2:=bp_ #[.int .i64 t9,.int .i64 t10] BK2 hb;replace HB:=bs HB hb;(try clear hb)))
 go_meet
 case rel=>exact ⟨_,(!t2),(aq),H',⟨by have:=HJ3.out;first|omega|exact Nat.le_refl _⟩,⟨Rt_ HO2.out⟩,⟨Rt_ HO0.out⟩,bu_ BK0,bu_ BK1,bu_ BK2,⟨bf HB⟩⟩};{
 rw [if_neg c46] at H
 exact absurd H (by simp)}};{
 rw [if_neg c45] at H
 have c37:(t11==0)=false:=beq_eq_false_iff_ne.mpr c45
 have c38:(t11 != 0)=true:=bne_iff_ne.mpr c45
 have H':=am H
 clear H
 go_wp2
 go_meet
 case rel=>exact ⟨_,(true),(aq),H',⟨by have:=HJ3.out;first|omega|exact Nat.le_refl _⟩,⟨Rt_ (Kd.R_mono (Kd.R_far (p:=⟨gb2,1,none⟩) (Kd.R_far (p:=⟨gb2,0,none⟩) (Kd.R_mono HO2.out (fun k_ hk=>(⟨hk,hk⟩:_∧k_≠gb2))) (fun _ hk=>hk.2) (.int .i64 t9)) (fun _ hk=>hk.2) (.int .i64 t10)) (fun _ hk=>hk.1))⟩,⟨Rt_ (Kd.R_mono (Kd.R_far (p:=⟨gb2,1,none⟩) (Kd.R_far (p:=⟨gb2,0,none⟩) (Kd.R_types HO0.out BK2.out (by decide)) (fun _ hk=>hk.2) (.int .i64 t9)) (fun _ hk=>hk.2) (.int .i64 t10)) (fun _ hk=>trivial))⟩,bu_ BK0,bu_ BK1,bq_ BK2,⟨bf HB⟩⟩}};{
 rw [if_neg c44] at H
 have c34:(t6==0)=false:=beq_eq_false_iff_ne.mpr c44
 have c35:(t6 != 0)=true:=bne_iff_ne.mpr c44
 (first|rw [c34]|(simp only [i64_w,i32_w];rw [c34])|skip)
 have H':=am H
 clear H
 go_wp2
 go_meet
 case rel=>exact ⟨_,(true),(aq),H',⟨by have:=HJ3.out;first|omega|exact Nat.le_refl _⟩,⟨Rt_ (Kd.R_mono (Kd.R_far (p:=⟨gb2,1,none⟩) (Kd.R_far (p:=⟨gb2,0,none⟩) (Kd.R_mono HO2.out (fun k_ hk=>(⟨hk,hk⟩:_∧k_≠gb2))) (fun _ hk=>hk.2) (.int .i64 t9)) (fun _ hk=>hk.2) (.int .i64 t10)) (fun _ hk=>hk.1))⟩,⟨Rt_ (Kd.R_mono (Kd.R_far (p:=⟨gb2,1,none⟩) (Kd.R_far (p:=⟨gb2,0,none⟩) (Kd.R_types HO0.out BK2.out (by decide)) (fun _ hk=>hk.2) (.int .i64 t9)) (fun _ hk=>hk.2) (.int .i64 t10)) (fun _ hk=>trivial))⟩,bu_ BK0,bu_ BK1,bq_ BK2,⟨bf HB⟩⟩}}
 case rest =>skip;{
 clear HC7
 (try clear c1);(try clear p2);(try clear c3);(try clear c4);(try clear c7);(try clear p7);(try clear q7);(try clear hx7);(try clear c12);(try clear c13);(try clear c19);(try clear c30);(try clear c44);(try clear c34);(try clear c35);(try clear c45);(try clear c37);(try clear c38);(try clear c46);(try clear c40);(try clear hcz2);(try clear hcz3);(try clear hx0);(try clear hx1);(try clear hx2);(try clear hx3);(try clear p0);(try clear p1);(try clear q0);(try clear q1)
 obtain ⟨kq,x1,rfl,HA,HJ0,HO3,HO4,BK0,BK1,BK2,HB⟩:=hcut
 cases kq with
 | zero=>exact absurd HA.out (by simp [carrefourlaw11_CritGrows.j1])
 | succ kj0 =>skip;{
 have H:=HA.out
 clear HA
 simp only [carrefourlaw11_CritGrows.j1] at H
 by_cases c49:x1=true;{
 subst c49
 have H1:((carrefourlaw11_awake.f kj0).bind fun t12=>(some t12))=some r:=by rw [if_pos rfl] at H;exact H
 clear H
 have H:=H1
 clear H1
 replace H:=bi_ H;obtain ⟨t12,A50,H⟩:=H
 (try dsimp only at H)
 obtain rfl:=Option.some.inj H
 go_wp2_with (first|((with_reducible refine gc 6 rfl ?_);refine gm_ (some 68) rfl rfl Tryd.func6 (carrefourlaw11_awake.calls kj0 _ _ A50.out (tt GT)) ag ?_;intro w51 hb;replace HO3:=am (Kd.R_below (Rt_ HO3.out) hb);replace HO4:=am (Kd.R_below (Rt_ HO4.out) hb);replace BK0:=bb BK0 hb;replace BK1:=bb BK1 hb;replace BK2:=bb BK2 hb;replace HB:=bs HB hb;(try clear hb)))
 go_ret
 exact ⟨by first|rfl|(simp [errW_none,errW_some]<;>rfl)|(simp only [← hji0];first|rfl|(simp [errW_none,errW_some]<;>rfl))|(simp [*,errW_none,errW_some]<;>rfl),bf HB⟩};{
 replace c49:=Bool.eq_false_iff.mpr c49
 subst c49
 have H1:(if 0≤ji0 then (if ji0<(y1.length:Int) then ((crit_Sum.f kj0 a0 l0 l2 l3 l4 l5 a1 (y1.set (ji0:Int).toNat (⟨t9,t10⟩:S36))).bind fun bt3=>(if bt3.2.2.2=0 then ((carrefourref02_Cmp.f kj0 bt3.1 bt3.2.1 t3 t4).bind fun t13=>(carrefourlaw11_CritGrows.j2 kj0 l1 ji0 (decide (t13<0)) a0 l0 l2 l3 l4 l5 a1 t3 t4 t5)) else (carrefourlaw11_CritGrows.j2 kj0 l1 ji0 false a0 l0 l2 l3 l4 l5 a1 t3 t4 t5))) else (none)) else (none))=some r:=by rw [if_neg (show ¬ (false=true) by decide)] at H;exact H
 clear H
 have H:=H1
 clear H1
 by_cases c52:0≤ji0;{
 rw [if_pos c52] at H
 have c50:decide (0≤ji0)=true:=decide_eq_true c52
 clear c52
 by_cases c53:ji0<(y1.length:Int);{
 rw [if_pos c53] at H
 have c55:decide (ji0<(y1.length:Int))=true:=decide_eq_true c53
 clear c53
 obtain ⟨y2,hy2⟩:∃ y_:List (S36),y_=(y1.set (ji0:Int).toNat (⟨t9,t10⟩:S36)):=⟨_,rfl⟩
 replace H:((crit_Sum.f kj0 a0 l0 l2 l3 l4 l5 a1 y2).bind fun bt3=>(if bt3.2.2.2=0 then ((carrefourref02_Cmp.f kj0 bt3.1 bt3.2.1 t3 t4).bind fun t13=>(carrefourlaw11_CritGrows.j2 kj0 l1 ji0 (decide (t13<0)) a0 l0 l2 l3 l4 l5 a1 t3 t4 t5)) else (carrefourlaw11_CritGrows.j2 kj0 l1 ji0 false a0 l0 l2 l3 l4 l5 a1 t3 t4 t5)))=some r:=by first|(rw [hy2];with_reducible exact H)|(have H0:=(Option.bind_some _ _).symm.trans H;rw [hy2];with_reducible exact H0)|(have H0:=(Option.bind_some _ _).symm.trans H;with_reducible exact H0)|with_reducible exact H|(rw [hy2];exact H)|exact H
 have Ny2:=am hy2
 clear hy2
 replace H:=bi_ H;obtain ⟨⟨t14,t15,t16,t17⟩,A55,H⟩:=H
 (try dsimp only at H)
 have HC8:=am H
 clear H
 have hnb1:=nn NB3
 have hnb2:=nn NB5
 have hcz4:=X.k2 BK2
 have p3:0≤(ji0:Int):=od_
 have q2:(ji0:Int)<((y1.length:Int):Int):=od_
 obtain ⟨go0,co2,eo2,gb3,gl0,cl0,HG0⟩:=Kd.R_form HO3.out (by omega)
 (first|cases eo2|(injection eo2 with ea_ en_ ec_;(first|subst ea_|(injection ea_ with ea_;subst ea_));subst ec_;clear en_))
 have GB0:=am gb3
 have GG0:=am HG0
 clear gb3 gl0 HG0
 (first|simp only [add_plain] at hx0|skip)
 (first|simp only [add_plain] at hx1|skip)
 obtain ⟨ce0,hcl0,hM0,hcc0,hfr0⟩:=Kd.R_elem HO3.out z36 (ji0:Int) p3 q2
 obtain rfl:=k36_openM hM0
 have hx4:wc.cell? ⟨go0,(ji0:Int).toNat*2,none⟩=some (.int .i64 ((rd_T36 y1 ji0).f0)):=hcc0 0 _ rfl
 have hx8:wc.cell? ⟨go0,(ji0:Int).toNat*2+1,none⟩=some (.int .i64 ((rd_T36 y1 ji0).f1)):=hcc0 1 _ rfl
 have hf0:wc.frozen? ⟨go0,(ji0:Int).toNat*2,none⟩=false:=hfr0 0
 have hf1:wc.frozen? ⟨go0,(ji0:Int).toNat*2+1,none⟩=false:=hfr0 1
 clear hcl0 hcc0 hfr0 hM0
 replace p3:=eq_true p3
 replace q2:=eq_true q2
 have HX0:=am (show Kd.R k36 36 wc w.heap.size (fun k_=>k_≠gb2) (.slice (some ⟨go0,0,none⟩) y1.length co1) y1 from (Rt_ HO3.out))
 obtain ⟨ce1,hcl1,hM1,hcc1,hfr1⟩:=Kd.R_elem HX0.out z36 (ji0:Int) (od_) (by have h_:(ji0:Int)<((y1.length:Int):Int):=od_;first|exact h_|(have e_:=(Kd.R_reads' HO3.out).1;omega)|simpa using h_)
 obtain rfl:=k36_openM hM1
 have HP0:=Kd.R_seg HX0.out (ji0:Int) (od_) (by have h_:(ji0:Int)<((y1.length:Int):Int):=od_;first|exact h_|(have e_:=(Kd.R_reads' HO3.out).1;omega)|simpa using h_) (seg:=[.int .i64 t9,.int .i64 t10]) (j:=0) hcl1 hcc1 (show 2≤2 from by decide) (x':=(⟨t9,t10⟩:S36)) (k36_mkM _ _ _ (⟨t9,t10⟩:S36) ) (fun _ hk=>hk)
 have hx9:=hcc1 0 _ rfl
 (try simp only [show (k36).sz=2 from rfl,Nat.mul_one,Nat.add_zero] at hx9)
 have hf2:=hfr1 0
 (try simp only [show (k36).sz=2 from rfl,Nat.mul_one,Nat.add_zero] at hf2)
 have hx10:=hcc1 1 _ rfl
 (try simp only [show (k36).sz=2 from rfl,Nat.mul_one,Nat.add_zero] at hx10)
 have hf3:=hfr1 1
 (try simp only [show (k36).sz=2 from rfl,Nat.mul_one,Nat.add_zero] at hf3)
 clear hcl1 hcc1 hfr1 hM1
 go_upto_region 11 with (first|((with_reducible refine gate_store (t:=36) (p:=72) rfl ?_);refine store_event (t:=36) (p:=72) (v:=?vo_w61) (w1:=((wc.setCell ⟨go0,(ji0:Int).toNat*2,none⟩ (.int .i64 t9)).setCell ⟨go0,(ji0:Int).toNat*2+1,none⟩ (.int .i64 t10))) ?hg ?ho ?hn ?hr ?_;(case ho=>rfl);(case hg=>rfl);(case hn=>rfl);(case hr=>first|(go_simp;done)|(go_simp;rfl));intro w61 hw;have hg:wc.grownBy w61 (some go0):=(by rw [hw];exact HP0.2);have hp_:Kd.R k36 36 w61 w.heap.size (fun k_=>k_≠gb2) (.slice (some ⟨go0,0,none⟩) y1.length co1) y2:=(by rw [hw,Ny2.out];exact HP0.1);clear HP0;replace HO4:=am (Kd.R_over' (v:=(.slice (some ⟨go0,0,none⟩) y1.length co1)) (Rt_ HO4.out) (Kd.R_typed HO3.out) (by decide) hg);replace BK0:=am (blk_grown (g:=gb0) (o:=.cells #[.string a0,.slice A0 l0.length c0,.slice A2 l2.length c2,.slice A3 l3.length c9,.slice A4 l4.length c10,.slice A5 l5.length c11,.int .i64 a1] 28 (0,0)) (bx BK0) hg (Kd.R_ne HO3.out BK0.out (by decide)));replace BK1:=am (blk_grown (g:=gb1) (o:=.cells #[.int .i64 t3,.int .i64 t4,.slice Ao0 t5.length co0] 39 (0,0)) (bx BK1) hg (Kd.R_ne HO3.out BK1.out (by decide)));replace BK2:=am (blk_grown (g:=gb2) (o:=.cells #[.int .i64 t9,.int .i64 t10] 36 (0,0)) (bx BK2) hg (Kd.R_away HO3.out (fun _ hk=>hk)));replace HO3:=am (hp_);replace HB:=am ((by rw [hw];exact below_set (below_set (HB.out) GB0.out) GB0.out:Below w.heap.size w w61));clear hg hw hp_;have hnb3:=nn NB0;have hcz5:=X.k7 BK0)|((with_reducible refine gate_callee (f:=7) rfl ?_);refine goesL_ (some 76) rfl rfl Tryd.func7 (by kernel_rfl) rfl #[.agg #[.string a0,.slice A0 l0.length c0,.slice A2 l2.length c2,.slice A3 l3.length c9,.slice A4 l4.length c10,.slice A5 l5.length c11,.int .i64 a1],.slice (some ⟨go0,0,none⟩) y2.length co1] rfl (by (try simp only [List.map_toArray,List.map_cons,List.map_nil]);first|done|(rw [show y2.length=y1.length from (Kd.R_reads' HO3.out).1.symm]<;>rfl)|rfl|(simp only [List.length_drop,List.length_take];rfl)) ?_;(with_reducible refine (crit_Sum.calls kj0 _ _ _ _ _ _ _ _ _ _ _ _ _ _ _ _ _ _ _ _ _ _ _ _ _ ?side1 ?side2 ?side3 ?side4 ?side5 ?side6 ?side7 ?side8 ?side9 ?side10 ?side11 ?side12 A55.out (tt GT)).mono ?_);(case side1=>repeat (first|exact (Kd.C_below HR0.out HB.out)|(with_reducible refine Kd.C_alloc ?_ _)|(with_reducible refine Kd.C_drewN ?_ _)|(with_reducible refine Kd.C_drew ?_)));(case side2=>exact HC0.out);(case side3=>repeat (first|exact (Kd.C_below HR2.out HB.out)|(with_reducible refine Kd.C_alloc ?_ _)|(with_reducible refine Kd.C_drewN ?_ _)|(with_reducible refine Kd.C_drew ?_)));(case side4=>exact HC2.out);(case side5=>repeat (first|exact (Kd.C_below HR3.out HB.out)|(with_reducible refine Kd.C_alloc ?_ _)|(with_reducible refine Kd.C_drewN ?_ _)|(with_reducible refine Kd.C_drew ?_)));(case side6=>exact HC3.out);(case side7=>repeat (first|exact (Kd.C_below HR4.out HB.out)|(with_reducible refine Kd.C_alloc ?_ _)|(with_reducible refine Kd.C_drewN ?_ _)|(with_reducible refine Kd.C_drew ?_)));(case side8=>exact HC5.out);(case side9=>repeat (first|exact (Kd.C_below HR5.out HB.out)|(with_reducible refine Kd.C_alloc ?_ _)|(with_reducible refine Kd.C_drewN ?_ _)|(with_reducible refine Kd.C_drew ?_)));(case side10=>exact HC6.out);(case side11=>repeat (first|exact (Kd.R_reads' HO3.out).2.2|(with_reducible refine Kd.C_alloc ?_ _)|(with_reducible refine Kd.C_drewN ?_ _)|(with_reducible refine Kd.C_drew ?_)));(case side12=>rw [show y2.length=y1.length from (Kd.R_reads' HO3.out).1.symm];exact (Kd.R_reads' HO3.out).2.1);rintro e w64 ⟨v5,rfl,ho0,hb⟩;refine ⟨_,rfl,?_⟩;have HO5:=am (Kd.R_lower (Kd.R_new' ho0 (Kd.R_lt (Rt_ HO4.out))) (below_size (bf HB)));replace HO3:=am (Kd.R_below (Rt_ HO3.out) hb);replace HO4:=am (Kd.R_elder' (Rt_ HO4.out) (Kd.R_base ho0) hb);replace BK0:=bb BK0 hb;replace BK1:=bb BK1 hb;replace BK2:=bb BK2 hb;replace HB:=bs HB hb;(try clear hb);(try clear ho0))|((with_reducible refine gate_dst (N:=13) rfl ?_);(try (refine gate_guard (by rfl) ?_;dsimp only));refine box_event ?hg (N:=13) ?hd (cs:=#[.int .i64 0,.int .i64 0,.slice none 0 0]) (t:=39) ?hr ?_;(case hd=>rfl);(case hg=>rfl);(case hr=>first|(go_simp;done)|(go_simp;rfl));intro gb4 hg w65 hbox hb;have BK3:=am (hbox);have GE3:=bz HB hg;have ⟨NB6,NB7⟩:=nb BK0 hg;have ⟨NB8,NB9⟩:=nb BK1 hg;have ⟨NB10,NB11⟩:=nb BK2 hg;replace HO3:=am (Kd.R_below (Rt_ HO3.out) hb);replace HO4:=am (Kd.R_below (Rt_ HO4.out) hb);replace HO5:=rb HO5 hb;replace BK0:=bb BK0 hb;replace BK1:=bb BK1 hb;replace BK2:=bb BK2 hb;replace HB:=bs HB hb;clear hb hg;have hnb4:=nn NB7;have hnb5:=nn NB9;have hnb6:=nn NB11;have hcz6:=X.k3 BK3;obtain ⟨Ao2,co3,eo3⟩:=Kd.R_slice HO5.out;subst eo3))
 (try simp only [Act.put,si,s0,s1])
 go_cut [88] (fun v6 wc=>∃ (kq:Nat) (x2:Bool),v6=.bool x2∧Aside0 (carrefourlaw11_CritGrows.j2 kq l1 ji0 x2 a0 l0 l2 l3 l4 l5 a1 t3 t4 t5=some r)∧Aside0 (kq≤kj0)∧Aside0 (Kd.R (Kd.int .i64) 3 wc w.heap.size (fun k_=>some k_≠((.slice Ao2 t16.length co3):Value).ownBlock) (.slice Ao0 t5.length co0) t5)∧Aside0 (Kd.R (Kd.int .i64) 3 wc w.heap.size (fun k_=>some k_≠((.slice Ao0 t5.length co0):Value).ownBlock) (.slice Ao2 t16.length co3) t16)∧Aside0 (wc.heap[gb0]?=some (.cells #[.string a0,(.slice A0 l0.length c0),(.slice A2 l2.length c2),(.slice A3 l3.length c9),(.slice A4 l4.length c10),(.slice A5 l5.length c11),.int .i64 a1] 28 (0,0)))∧Aside0 (wc.heap[gb1]?=some (.cells #[.int .i64 t3,.int .i64 t4,(.slice Ao0 t5.length co0)] 39 (0,0)))∧Aside0 (wc.heap[gb2]?=some (.cells #[.int .i64 t9,.int .i64 t10] 36 (0,0)))∧Aside0 (wc.heap[gb4]?=some (.cells #[.int .i64 t14,.int .i64 t15,(.slice Ao2 t16.length co3)] 39 (0,0)))∧Aside0 (Below w.heap.size w wc))
 case first =>skip;{
 have H:=HC8.out
 clear HC8
 by_cases c71:t17=0;{
 rw [if_pos c71] at H
 have c59:(t17==0)=true:=beq_iff_eq.mpr c71
 have c61:(t17 != 0)=false:=bne_eq_false_iff_eq.mpr c71
 clear c71
 (first|rw [c59]|(simp only [i64_w,i32_w];rw [c59])|skip)
 replace H:=bi_ H;obtain ⟨t13,A72,H⟩:=H
 (try dsimp only at H)
 have H':=am H
 clear H
 have hnb7:=nn NB7
 have hnb8:=nn NB9
 have hnb9:=nn NB11
 have hcz7:=X.k3 BK3
 have hnb77:=nn NB1
 have hnb78:=nn NB4
 have hcz8:=X.k3 BK1
 go_wp2_with (first|(go_at_call 11;(with_reducible refine (carrefourref02_Cmp.calls kj0 _ _ _ _ _ _ A72.out).mono ?_);rintro e w80 ⟨rfl,hb⟩;replace HO3:=am (Kd.R_below (Rt_ (Kd.R_mono (Kd.R_far (p:=⟨gb4,2,none⟩) (Kd.R_far (p:=⟨gb4,1,none⟩) (Kd.R_far (p:=⟨gb4,0,none⟩) (Kd.R_types HO3.out BK3.out (by decide)) (fun _ hk=>hk.2) (.int .i64 t14)) (fun _ hk=>hk.2) (.int .i64 t15)) (fun _ hk=>hk.2) (.slice Ao2 t16.length co3)) (fun _ h_=>h_.1))) hb);replace HO4:=am (Kd.R_below (Rt_ (Kd.R_mono (Kd.R_far (p:=⟨gb4,2,none⟩) (Kd.R_far (p:=⟨gb4,1,none⟩) (Kd.R_far (p:=⟨gb4,0,none⟩) (Kd.R_types HO4.out BK3.out (by decide)) (fun _ hk=>hk.2) (.int .i64 t14)) (fun _ hk=>hk.2) (.int .i64 t15)) (fun _ hk=>hk.2) (.slice Ao2 t16.length co3)) (fun _ h_=>h_.1))) hb);replace HO5:=am (Kd.R_below (Rt_ (Kd.R_mono (Kd.R_far (p:=⟨gb4,2,none⟩) (Kd.R_far (p:=⟨gb4,1,none⟩) (Kd.R_far (p:=⟨gb4,0,none⟩) (Kd.R_types HO5.out BK3.out (by decide)) (fun _ hk=>hk.2) (.int .i64 t14)) (fun _ hk=>hk.2) (.int .i64 t15)) (fun _ hk=>hk.2) (.slice Ao2 t16.length co3)) (fun _ h_=>h_.1))) hb);replace BK0:=bb BK0 hb;replace BK1:=bb BK1 hb;replace BK2:=bb BK2 hb;replace BK3:=bp_ #[.int .i64 t14,.int .i64 t15,.slice Ao2 t16.length co3] BK3 hb;replace HB:=bs HB hb;(try clear hb)))
 go_meet
 case rel=>exact ⟨_,(decide (t13<0)),(aq),H',⟨by have:=HJ3.out;have:=HJ0.out;first|omega|exact Nat.le_refl _⟩,⟨Rt_ (Kd.R_mono HO4.out (fun _ hk=>hk.2))⟩,⟨Rt_ (Kd.R_mono HO5.out (fun _ hk=>hk.2))⟩,bu_ BK0,bu_ BK1,bu_ BK2,bu_ BK3,⟨bf HB⟩⟩};{
 rw [if_neg c71] at H
 have c59:(t17==0)=false:=beq_eq_false_iff_ne.mpr c71
 have c61:(t17 != 0)=true:=bne_iff_ne.mpr c71
 (first|rw [c59]|(simp only [i64_w,i32_w];rw [c59])|skip)
 have H':=am H
 clear H
 go_wp2
 go_meet
 case rel=>exact ⟨_,(false),(aq),H',⟨by have:=HJ3.out;have:=HJ0.out;first|omega|exact Nat.le_refl _⟩,⟨Rt_ (Kd.R_mono (Kd.R_far (p:=⟨gb4,2,none⟩) (Kd.R_far (p:=⟨gb4,1,none⟩) (Kd.R_far (p:=⟨gb4,0,none⟩) (Kd.R_types HO4.out BK3.out (by decide)) (fun _ hk=>hk.2) (.int .i64 t14)) (fun _ hk=>hk.2) (.int .i64 t15)) (fun _ hk=>hk.2) (.slice Ao2 t16.length co3)) (fun _ hk=>hk.1.2))⟩,⟨Rt_ (Kd.R_mono (Kd.R_far (p:=⟨gb4,2,none⟩) (Kd.R_far (p:=⟨gb4,1,none⟩) (Kd.R_far (p:=⟨gb4,0,none⟩) (Kd.R_types HO5.out BK3.out (by decide)) (fun _ hk=>hk.2) (.int .i64 t14)) (fun _ hk=>hk.2) (.int .i64 t15)) (fun _ hk=>hk.2) (.slice Ao2 t16.length co3)) (fun _ hk=>hk.1.2))⟩,bu_ BK0,bu_ BK1,bu_ BK2,bq_ BK3,⟨bf HB⟩⟩}}
 case rest =>skip;{
 clear HC8
 (try clear c1);(try clear p2);(try clear c3);(try clear c4);(try clear c5);(try clear p5);(try clear q5);(try clear hx5);(try clear hf5);(try clear c6);(try clear hx6);(try clear hf6);(try clear c7);(try clear p7);(try clear q7);(try clear hx7);(try clear c12);(try clear c13);(try clear c19);(try clear c30);(try clear c44);(try clear c34);(try clear c35);(try clear c45);(try clear c37);(try clear c38);(try clear c46);(try clear c40);(try clear c49);(try clear c52);(try clear c50);(try clear c53);(try clear c55);(try clear c54);(try clear p3);(try clear q2);(try clear hx54);(try clear hf4);(try clear c57);(try clear c58);(try clear c60);(try clear hx60);(try clear hf7);(try clear c62);(try clear c66);(try clear c67);(try clear c68);(try clear c71);(try clear c59);(try clear c61);(try clear p4);(try clear q3);(try clear hx72);(try clear c73);(try clear c74);(try clear c75);(try clear c77);(try clear c78);(try clear hcz2);(try clear hcz3);(try clear hcz4);(try clear hcz5);(try clear hcz6);(try clear hcz7);(try clear hcz8);(try clear hx4);(try clear hx8);(try clear hx9);(try clear hx10);(try clear hx0);(try clear hx1);(try clear hx2);(try clear hx3);(try clear p2);(try clear p3);(try clear p7);(try clear p0);(try clear p1);(try clear q2);(try clear q7);(try clear q0);(try clear q1)
 obtain ⟨kq,x2,rfl,HA,HJ1,HO4,HO6,BK0,BK1,BK2,BK3,HB⟩:=hcut
 cases kq with
 | zero=>exact absurd HA.out (by simp [carrefourlaw11_CritGrows.j2])
 | succ kj1 =>skip;{
 have H:=HA.out
 clear HA
 simp only [carrefourlaw11_CritGrows.j2] at H
 by_cases c81:x2=true;{
 subst c81
 have H1:(some false)=some r:=by rw [if_pos rfl] at H;exact H
 clear H
 have H:=H1
 clear H1
 obtain rfl:=Option.some.inj H
 go_wp2
 go_ret
 exact ⟨by first|rfl|(simp [errW_none,errW_some]<;>rfl)|(simp only [← hji0];first|rfl|(simp [errW_none,errW_some]<;>rfl))|(simp [*,errW_none,errW_some]<;>rfl),bf HB⟩};{
 replace c81:=Bool.eq_false_iff.mpr c81
 subst c81
 have H1:(if 0≤(mx 0 (wrap64 ((l4.length:Int)-1))) then (if (mx 0 (wrap64 ((l4.length:Int)-1)))≤(l4.length:Int) then ((crit_Sum.f kj1 a0 l0 l2 l3 (l4.take ((mx 0 (wrap64 ((l4.length:Int)-1))):Int).toNat) l5 a1 l1).bind fun bt4=>(if bt4.2.2.2=0 then (if 0≤ji0 then (if ji0<(l1.length:Int) then (if ((rd_T36 l1 ji0).f0)<0 then ((carrefourlaw11_awake.f kj1).bind fun t18=>(some t18)) else ((carrefourref02_Cmp.f kj1 bt4.1 bt4.2.1 t3 t4).bind fun t19=>(if t19≤0 then ((carrefourlaw11_awake.f kj1).bind fun t20=>(some t20)) else ((carrefourlaw11_below.f kj1 l1).bind fun t21=>(if t21=true then ((carrefourlaw11_awake.f kj1).bind fun t22=>(some t22)) else (some false)))))) else (none)) else (none)) else ((carrefourlaw11_awake.f kj1).bind fun t23=>(some t23)))) else (none)) else (none))=some r:=by rw [if_neg (show ¬ (false=true) by decide)] at H;exact H
 clear H
 have H:=H1
 clear H1
 obtain ⟨ji1,hji1⟩:∃ j_:Int,(mx 0 (wrap64 ((l4.length:Int)-1)))=j_:=⟨_,rfl⟩
 replace H:(if 0≤(ji1) then (if (ji1)≤(l4.length:Int) then ((crit_Sum.f kj1 a0 l0 l2 l3 (l4.take ((ji1):Int).toNat) l5 a1 l1).bind fun bt4=>(if bt4.2.2.2=0 then (if 0≤ji0 then (if ji0<(l1.length:Int) then (if ((rd_T36 l1 ji0).f0)<0 then ((carrefourlaw11_awake.f kj1).bind fun t18=>(some t18)) else ((carrefourref02_Cmp.f kj1 bt4.1 bt4.2.1 t3 t4).bind fun t19=>(if t19≤0 then ((carrefourlaw11_awake.f kj1).bind fun t20=>(some t20)) else ((carrefourlaw11_below.f kj1 l1).bind fun t21=>(if t21=true then ((carrefourlaw11_awake.f kj1).bind fun t22=>(some t22)) else (some false)))))) else (none)) else (none)) else ((carrefourlaw11_awake.f kj1).bind fun t23=>(some t23)))) else (none)) else (none))=some r:=by first|(rw [hji1] at H;exact H)|(simp only [hji1] at H ⊢;exact H)
 have hji2:(if 0<(wrap64 ((l4.length:Int)-1)) then (wrap64 ((l4.length:Int)-1)) else 0)=ji1:=hji1
 by_cases c83:0≤(ji1);{
 rw [if_pos c83] at H
 have c94:=eq_true c83
 have c95:decide (0≤(ji1))=true:=decide_eq_true c83
 clear c83
 by_cases c84:(ji1)≤(l4.length:Int);{
 rw [if_pos c84] at H
 have c97:=eq_true c84
 have c98:decide ((ji1)≤(l4.length:Int))=true:=decide_eq_true c84
 clear c84
 obtain ⟨y3,hy3⟩:∃ y_:List (S33),y_=(l4.take ((ji1):Int).toNat):=⟨_,rfl⟩
 replace H:((crit_Sum.f kj1 a0 l0 l2 l3 y3 l5 a1 l1).bind fun bt4=>(if bt4.2.2.2=0 then (if 0≤ji0 then (if ji0<(l1.length:Int) then (if ((rd_T36 l1 ji0).f0)<0 then ((carrefourlaw11_awake.f kj1).bind fun t18=>(some t18)) else ((carrefourref02_Cmp.f kj1 bt4.1 bt4.2.1 t3 t4).bind fun t19=>(if t19≤0 then ((carrefourlaw11_awake.f kj1).bind fun t20=>(some t20)) else ((carrefourlaw11_below.f kj1 l1).bind fun t21=>(if t21=true then ((carrefourlaw11_awake.f kj1).bind fun t22=>(some t22)) else (some false)))))) else (none)) else (none)) else ((carrefourlaw11_awake.f kj1).bind fun t23=>(some t23))))=some r:=by first|(rw [hy3];with_reducible exact H)|(have H0:=(Option.bind_some _ _).symm.trans H;rw [hy3];with_reducible exact H0)|(have H0:=(Option.bind_some _ _).symm.trans H;with_reducible exact H0)|with_reducible exact H|(rw [hy3];exact H)|exact H
 have Ny3:=am hy3
 clear hy3
 replace H:=bi_ H;obtain ⟨⟨t24,t25,t26,t27⟩,A85,H⟩:=H
 (try dsimp only at H)
 by_cases c86:t27=0;{
 rw [if_pos c86] at H
 have c100:(t27==0)=true:=beq_iff_eq.mpr c86
 have c101:(t27 != 0)=false:=bne_eq_false_iff_eq.mpr c86
 clear c86
 by_cases c87:0≤ji0;{
 rw [if_pos c87] at H
 have c103:decide (0≤ji0)=true:=decide_eq_true c87
 clear c87
 by_cases c88:ji0<(l1.length:Int);{
 rw [if_pos c88] at H
 have c105:decide (ji0<(l1.length:Int))=true:=decide_eq_true c88
 clear c88
 by_cases c89:((rd_T36 l1 ji0).f0)<0;{
 rw [if_pos c89] at H
 have c107:decide (((rd_T36 l1 ji0).f0)<0)=true:=decide_eq_true c89
 clear c89
 replace H:=bi_ H;obtain ⟨t18,A90,H⟩:=H
 (try dsimp only at H)
 obtain rfl:=Option.some.inj H
 have hnb91:=nn NB0
 have hnb92:=nn NB2
 have hnb93:=nn NB6
 have hcz94:=X.k7 BK0
 go_wp2_with (first|((with_reducible refine gate_dst (N:=15) rfl ?_);(try (refine gate_guard (by rfl) ?_;dsimp only));refine box_event ?hg (N:=15) ?hd (cs:=#[.string (⟨#[]⟩:ByteArray),.slice none 0 0,.slice none 0 0,.slice none 0 0,.slice none 0 0,.slice none 0 0,.int .i64 0]) (t:=28) ?hr ?_;(case hd=>rfl);(case hg=>rfl);(case hr=>first|(go_simp;done)|(go_simp;rfl));intro gb5 hg w95 hbox hb;have BK4:=am (hbox);have GE4:=bz HB hg;have ⟨NB12,NB13⟩:=nb BK0 hg;have ⟨NB14,NB15⟩:=nb BK1 hg;have ⟨NB16,NB17⟩:=nb BK2 hg;have ⟨NB18,NB19⟩:=nb BK3 hg;replace HO4:=am (Kd.R_below (Rt_ HO4.out) hb);replace HO6:=am (Kd.R_below (Rt_ HO6.out) hb);replace BK0:=bb BK0 hb;replace BK1:=bb BK1 hb;replace BK2:=bb BK2 hb;replace BK3:=bb BK3 hb;replace HB:=bs HB hb;clear hb hg;have hnb96:=nn NB13;have hnb97:=nn NB15;have hnb98:=nn NB17;have hnb99:=nn NB19;have hcz12:=X.k7 BK4)|((with_reducible refine gate_store (t:=28) (p:=15) rfl ?_);refine store_event (t:=28) (p:=15) (v:=?vo_w101) (w1:=(((((((w95.setCell ⟨gb5,0,none⟩ (.string a0)).setCell ⟨gb5,1,none⟩ (.slice A0 l0.length c0)).setCell ⟨gb5,2,none⟩ (.slice A2 l2.length c2)).setCell ⟨gb5,3,none⟩ (.slice A3 l3.length c9)).setCell ⟨gb5,4,none⟩ (.slice A4 l4.length c10)).setCell ⟨gb5,5,none⟩ (.slice A5 l5.length c11)).setCell ⟨gb5,6,none⟩ (.int .i64 a1))) ?hg ?ho ?hn ?hr ?_;(case ho=>rfl);(case hg=>rfl);(case hn=>rfl);(case hr=>first|(go_simp;done)|(go_simp;rfl));intro w27 hw;have n0:Aside0 (Kd.R (Kd.int .i64) 3 w27 w.heap.size (fun k_=>some k_≠(.slice Ao2 t16.length co3:Value).ownBlock) (.slice Ao0 t5.length co0) t5):=⟨(by rw [hw];exact (Rt_ (Kd.R_mono (Kd.R_far (p:=⟨gb5,6,none⟩) (Kd.R_far (p:=⟨gb5,5,none⟩) (Kd.R_far (p:=⟨gb5,4,none⟩) (Kd.R_far (p:=⟨gb5,3,none⟩) (Kd.R_far (p:=⟨gb5,2,none⟩) (Kd.R_far (p:=⟨gb5,1,none⟩) (Kd.R_far (p:=⟨gb5,0,none⟩) (Kd.R_types HO4.out BK4.out (by decide)) (fun _ hk=>hk.2) (.string a0)) (fun _ hk=>hk.2) (.slice A0 l0.length c0)) (fun _ hk=>hk.2) (.slice A2 l2.length c2)) (fun _ hk=>hk.2) (.slice A3 l3.length c9)) (fun _ hk=>hk.2) (.slice A4 l4.length c10)) (fun _ hk=>hk.2) (.slice A5 l5.length c11)) (fun _ hk=>hk.2) (.int .i64 a1)) (fun _ hk=>hk.1))))⟩;have n1:Aside0 (Kd.R (Kd.int .i64) 3 w27 w.heap.size (fun k_=>some k_≠(.slice Ao0 t5.length co0:Value).ownBlock) (.slice Ao2 t16.length co3) t16):=⟨(by rw [hw];exact (Rt_ (Kd.R_mono (Kd.R_far (p:=⟨gb5,6,none⟩) (Kd.R_far (p:=⟨gb5,5,none⟩) (Kd.R_far (p:=⟨gb5,4,none⟩) (Kd.R_far (p:=⟨gb5,3,none⟩) (Kd.R_far (p:=⟨gb5,2,none⟩) (Kd.R_far (p:=⟨gb5,1,none⟩) (Kd.R_far (p:=⟨gb5,0,none⟩) (Kd.R_types HO6.out BK4.out (by decide)) (fun _ hk=>hk.2) (.string a0)) (fun _ hk=>hk.2) (.slice A0 l0.length c0)) (fun _ hk=>hk.2) (.slice A2 l2.length c2)) (fun _ hk=>hk.2) (.slice A3 l3.length c9)) (fun _ hk=>hk.2) (.slice A4 l4.length c10)) (fun _ hk=>hk.2) (.slice A5 l5.length c11)) (fun _ hk=>hk.2) (.int .i64 a1)) (fun _ hk=>hk.1))))⟩;have n2:Aside0 (w27.heap[gb0]?=some (.cells #[.string a0,.slice A0 l0.length c0,.slice A2 l2.length c2,.slice A3 l3.length c9,.slice A4 l4.length c10,.slice A5 l5.length c11,.int .i64 a1] 28 (0,0))):=⟨(by rw [hw];exact (bx BK0))⟩;have n3:Aside0 (w27.heap[gb1]?=some (.cells #[.int .i64 t3,.int .i64 t4,.slice Ao0 t5.length co0] 39 (0,0))):=⟨(by rw [hw];exact (bx BK1))⟩;have n4:Aside0 (w27.heap[gb2]?=some (.cells #[.int .i64 t9,.int .i64 t10] 36 (0,0))):=⟨(by rw [hw];exact (bx BK2))⟩;have n5:Aside0 (w27.heap[gb4]?=some (.cells #[.int .i64 t14,.int .i64 t15,.slice Ao2 t16.length co3] 39 (0,0))):=⟨(by rw [hw];exact (bx BK3))⟩;have n6:Aside0 (w27.heap[gb5]?=some (.cells #[.string a0,.slice A0 l0.length c0,.slice A2 l2.length c2,.slice A3 l3.length c9,.slice A4 l4.length c10,.slice A5 l5.length c11,.int .i64 a1] 28 (0,0))):=⟨(by rw [hw];exact (br_ BK4))⟩;have n7:Aside0 (Below w.heap.size w w27):=⟨(by rw [hw];exact (bf HB))⟩;clear hw;clear HO4;clear HO6;clear BK0;clear BK1;clear BK2;clear BK3;clear BK4;clear HB;have HO4:=n0;have HO6:=n1;have BK0:=n2;have BK1:=n3;have BK2:=n4;have BK3:=n5;have BK4:=n6;have HB:=n7;clear n0 n1 n2 n3 n4 n5 n6 n7;have hcz14:=X.k7 BK0;have q4:((ji1):Int)≤((l4.length:Int):Int):=od_;obtain ⟨i0103,hi0,_,hsz0,_⟩:=info_parts info33;have hroom103:l4.length≤c10:=HC5.out;have hC0:Kd.C k33 _ A4 l4.length l4:=HR4.out;have hcut0:=cut_to (P:=Tryd.prog) 25 33 .i64 Tryd.underlying25 hi0 A4 l4.length c10 (ji1) (od_) q4 hroom103;have hr6:=Kd.C_take (m:=((ji1):Int).toNat) hC0 (by omega);have hy4:y3.length=((ji1):Int).toNat:=(by rw [Ny3.out,List.length_take];omega);rw [← Ny3.out] at hr6;rw [← hy4] at hcut0;have HR6:=am hr6;have HC9:=am (show y3.length≤c10 from by omega);clear hr6 hC0 hroom103 hi0 hsz0;have KY0:=am hy4;clear hy4;replace q4:=eq_true q4;have hcz15:=X.k7 BK4)|((with_reducible refine gc 7 rfl ?_);refine gl_ (some 102) rfl rfl Tryd.func7 ((crit_Sum.calls kj1 _ _ _ _ _ _ _ _ _ _ _ _ _ _ _ _ _ _ _ _ _ _ _ _ _ ?side1 ?side2 ?side3 ?side4 ?side5 ?side6 ?side7 ?side8 ?side9 ?side10 ?side11 ?side12 A85.out (tt GT)).mono ?_) ag;(case side1=>exact Kd.C_below HR0.out (bf HB));(case side2=>exact HC0.out);(case side3=>exact Kd.C_below HR2.out (bf HB));(case side4=>exact HC2.out);(case side5=>exact Kd.C_below HR3.out (bf HB));(case side6=>exact HC3.out);(case side7=>exact Kd.C_below HR6.out (bf HB));(case side8=>exact HC9.out);(case side9=>exact Kd.C_below HR5.out (bf HB));(case side10=>exact HC6.out);(case side11=>exact Kd.C_below HR1.out (bf HB));(case side12=>exact HC1.out);rintro e w30 ⟨v7,rfl,ho0,hb⟩;refine ⟨_,rfl,?_⟩;have HO7:=am (Kd.R_lower (Kd.R_new' (Kd.R_new' ho0 (Kd.R_lt (Rt_ (Kd.R_mono (Kd.R_far (p:=⟨gb5,4,none⟩) (Kd.R_types HO4.out BK4.out (by decide)) (fun _ hk=>hk.2) (.slice A4 y3.length c10)) (fun _ h_=>h_.1))))) (Kd.R_lt (Rt_ (Kd.R_mono (Kd.R_far (p:=⟨gb5,4,none⟩) (Kd.R_types HO6.out BK4.out (by decide)) (fun _ hk=>hk.2) (.slice A4 y3.length c10)) (fun _ h_=>h_.1))))) (below_size (bf HB)));replace HO4:=am (Kd.R_elder' (Rt_ (Kd.R_mono (Kd.R_far (p:=⟨gb5,4,none⟩) (Kd.R_types HO4.out BK4.out (by decide)) (fun _ hk=>hk.2) (.slice A4 y3.length c10)) (fun _ h_=>h_.1))) (Kd.R_base ho0) hb);replace HO6:=am (Kd.R_elder' (Rt_ (Kd.R_mono (Kd.R_far (p:=⟨gb5,4,none⟩) (Kd.R_types HO6.out BK4.out (by decide)) (fun _ hk=>hk.2) (.slice A4 y3.length c10)) (fun _ h_=>h_.1))) (Kd.R_base ho0) hb);replace BK0:=bb BK0 hb;replace BK1:=bb BK1 hb;replace BK2:=bb BK2 hb;replace BK3:=bb BK3 hb;replace BK4:=bp_ #[.string a0,.slice A0 l0.length c0,.slice A2 l2.length c2,.slice A3 l3.length c9,.slice A4 y3.length c10,.slice A5 l5.length c11,.int .i64 a1] BK4 hb;replace HB:=bs HB hb;(try clear hb);(try clear ho0))|((with_reducible refine gate_dst (N:=16) rfl ?_);(try (refine gate_guard (by rfl) ?_;dsimp only));refine box_event ?hg (N:=16) ?hd (cs:=#[.int .i64 0,.int .i64 0,.slice none 0 0]) (t:=39) ?hr ?_;(case hd=>rfl);(case hg=>rfl);(case hr=>first|(go_simp;done)|(go_simp;rfl));intro gb6 hg w31 hbox hb;have BK5:=am (hbox);have GW1:=bz HB hg;have GE5:=bz HB hg;have ⟨NB20,NB21⟩:=nb BK0 hg;have ⟨NB22,NB23⟩:=nb BK1 hg;have ⟨NB24,NB25⟩:=nb BK2 hg;have ⟨NB26,NB27⟩:=nb BK3 hg;have ⟨NB28,NB29⟩:=nb BK4 hg;replace HO4:=am (Kd.R_below (Rt_ HO4.out) hb);replace HO6:=am (Kd.R_below (Rt_ HO6.out) hb);replace HO7:=rb HO7 hb;replace BK0:=bb BK0 hb;replace BK1:=bb BK1 hb;replace BK2:=bb BK2 hb;replace BK3:=bb BK3 hb;replace HB:=bs HB hb;clear hb hg;have hnb19:=nn NB21;have hnb20:=nn NB23;have hnb21:=nn NB25;have hnb22:=nn NB27;have hnb23:=nn NB29;have hcz16:=X.k3 BK5;obtain ⟨Ao3,co4,eo4⟩:=Kd.R_slice HO7.out;subst eo4;have p6:0≤(ji0:Int):=od_;have q6:ji0<(l1.length:Int):=od_;obtain ⟨ad2,e2,hx14,hx15⟩:=at_T36 HR1.out ji0 p6 q6;cases e2;have hn2:ad2.block≠gb6:=Nat.ne_of_lt (Nat.lt_of_lt_of_le (by have:=World.block_lt_of_cell? _ _ hx14;first|rwa [add_block] at this|exact this) GW1.out);have hn3:ad2.block≠gb6:=Nat.ne_of_lt (Nat.lt_of_lt_of_le (by have:=World.block_lt_of_cell? _ _ hx14;first|rwa [add_block] at this|exact this) GW1.out);have hn4:ad2.block≠gb6:=Nat.ne_of_lt (Nat.lt_of_lt_of_le (by have:=World.block_lt_of_cell? _ _ hx14;first|rwa [add_block] at this|exact this) GW1.out);replace hx14:=hx_ HB hx14;replace hx15:=hx_ HB hx15;replace hx14:=(cell_far (p:=⟨gb6,0,none⟩) (by first|(rw [add_block];exact hn2)|(show (Addr.add _ _).block≠_;rw [add_block];exact hn2)|exact hn2) (.int .i64 t24)).trans hx14;replace hx15:=(cell_far (p:=⟨gb6,0,none⟩) (by first|(rw [add_block];exact hn2)|(show (Addr.add _ _).block≠_;rw [add_block];exact hn2)|exact hn2) (.int .i64 t24)).trans hx15;replace hx14:=(cell_far (p:=⟨gb6,1,none⟩) (by first|(rw [add_block];exact hn3)|(show (Addr.add _ _).block≠_;rw [add_block];exact hn3)|exact hn3) (.int .i64 t25)).trans hx14;replace hx15:=(cell_far (p:=⟨gb6,1,none⟩) (by first|(rw [add_block];exact hn3)|(show (Addr.add _ _).block≠_;rw [add_block];exact hn3)|exact hn3) (.int .i64 t25)).trans hx15;replace hx14:=(cell_far (p:=⟨gb6,2,none⟩) (by first|(rw [add_block];exact hn4)|(show (Addr.add _ _).block≠_;rw [add_block];exact hn4)|exact hn4) (.slice Ao3 t26.length co4)).trans hx14;replace hx15:=(cell_far (p:=⟨gb6,2,none⟩) (by first|(rw [add_block];exact hn4)|(show (Addr.add _ _).block≠_;rw [add_block];exact hn4)|exact hn4) (.slice Ao3 t26.length co4)).trans hx15;clear hn2;clear hn3;clear hn4;replace p6:=eq_true p6;replace q6:=eq_true q6)|(go_at_call 6;(with_reducible refine (carrefourlaw11_awake.calls kj1 _ _ A90.out (tt GT)).mono ?_);rintro e w32 ⟨rfl,hb⟩;replace HO4:=am (Kd.R_below (Rt_ (Kd.R_mono (Kd.R_far (p:=⟨gb6,2,none⟩) (Kd.R_far (p:=⟨gb6,1,none⟩) (Kd.R_far (p:=⟨gb6,0,none⟩) (Kd.R_types HO4.out BK5.out (by decide)) (fun _ hk=>hk.2) (.int .i64 t24)) (fun _ hk=>hk.2) (.int .i64 t25)) (fun _ hk=>hk.2) (.slice Ao3 t26.length co4)) (fun _ h_=>h_.1))) hb);replace HO6:=am (Kd.R_below (Rt_ (Kd.R_mono (Kd.R_far (p:=⟨gb6,2,none⟩) (Kd.R_far (p:=⟨gb6,1,none⟩) (Kd.R_far (p:=⟨gb6,0,none⟩) (Kd.R_types HO6.out BK5.out (by decide)) (fun _ hk=>hk.2) (.int .i64 t24)) (fun _ hk=>hk.2) (.int .i64 t25)) (fun _ hk=>hk.2) (.slice Ao3 t26.length co4)) (fun _ h_=>h_.1))) hb);replace HO7:=am (Kd.R_below (Rt_ (Kd.R_mono (Kd.R_far (p:=⟨gb6,2,none⟩) (Kd.R_far (p:=⟨gb6,1,none⟩) (Kd.R_far (p:=⟨gb6,0,none⟩) (Kd.R_types HO7.out BK5.out (by decide)) (fun _ hk=>hk.2) (.int .i64 t24)) (fun _ hk=>hk.2) (.int .i64 t25)) (fun _ hk=>hk.2) (.slice Ao3 t26.length co4)) (fun _ h_=>h_.1))) hb);replace BK0:=bb BK0 hb;replace BK1:=bb BK1 hb;replace BK2:=bb BK2 hb;replace BK3:=bb BK3 hb;replace BK5:=bp_ #[.int .i64 t24,.int .i64 t25,.slice Ao3 t26.length co4] BK5 hb;replace HB:=bs HB hb;(try clear hb)))
 go_ret
 exact ⟨by first|rfl|(simp [errW_none,errW_some]<;>rfl)|(simp only [← hji0,← hji1];first|rfl|(simp [errW_none,errW_some]<;>rfl))|(simp [*,errW_none,errW_some]<;>rfl),bf HB⟩};{
 rw [if_neg c89] at H
 have c107:decide (((rd_T36 l1 ji0).f0)<0)=false:=decide_eq_false c89
 clear c89
 replace H:=bi_ H;obtain ⟨t19,A19,H⟩:=H
 (try dsimp only at H)
 by_cases c116:t19≤0;{
 rw [if_pos c116] at H
 have c109:decide (t19≤0)=true:=decide_eq_true c116
 clear c116
 replace H:=bi_ H;obtain ⟨t20,A20,H⟩:=H
 (try dsimp only at H)
 obtain rfl:=Option.some.inj H
 have hnb24:=nn NB0
 have hnb25:=nn NB2
 have hnb26:=nn NB6
 have hcz17:=X.k7 BK0
 go_wp2_with (first|((with_reducible refine gate_dst (N:=15) rfl ?_);(try (refine gate_guard (by rfl) ?_;dsimp only));refine box_event ?hg (N:=15) ?hd (cs:=#[.string (⟨#[]⟩:ByteArray),.slice none 0 0,.slice none 0 0,.slice none 0 0,.slice none 0 0,.slice none 0 0,.int .i64 0]) (t:=28) ?hr ?_;(case hd=>rfl);(case hg=>rfl);(case hr=>first|(go_simp;done)|(go_simp;rfl));intro gb5 hg w34 hbox hb;have BK4:=am (hbox);have GE4:=bz HB hg;have ⟨NB12,NB13⟩:=nb BK0 hg;have ⟨NB14,NB15⟩:=nb BK1 hg;have ⟨NB16,NB17⟩:=nb BK2 hg;have ⟨NB18,NB19⟩:=nb BK3 hg;replace HO4:=am (Kd.R_below (Rt_ HO4.out) hb);replace HO6:=am (Kd.R_below (Rt_ HO6.out) hb);replace BK0:=bb BK0 hb;replace BK1:=bb BK1 hb;replace BK2:=bb BK2 hb;replace BK3:=bb BK3 hb;replace HB:=bs HB hb;clear hb hg;have hnb27:=nn NB13;have hnb28:=nn NB15;have hnb29:=nn NB17;have hnb31:=nn NB19;have hcz18:=X.k7 BK4)|((with_reducible refine gate_store (t:=28) (p:=15) rfl ?_);refine store_event (t:=28) (p:=15) (v:=?vo_w128) (w1:=(((((((w34.setCell ⟨gb5,0,none⟩ (.string a0)).setCell ⟨gb5,1,none⟩ (.slice A0 l0.length c0)).setCell ⟨gb5,2,none⟩ (.slice A2 l2.length c2)).setCell ⟨gb5,3,none⟩ (.slice A3 l3.length c9)).setCell ⟨gb5,4,none⟩ (.slice A4 l4.length c10)).setCell ⟨gb5,5,none⟩ (.slice A5 l5.length c11)).setCell ⟨gb5,6,none⟩ (.int .i64 a1))) ?hg ?ho ?hn ?hr ?_;(case ho=>rfl);(case hg=>rfl);(case hn=>rfl);(case hr=>first|(go_simp;done)|(go_simp;rfl));intro w37 hw;have n0:Aside0 (Kd.R (Kd.int .i64) 3 w37 w.heap.size (fun k_=>some k_≠(.slice Ao2 t16.length co3:Value).ownBlock) (.slice Ao0 t5.length co0) t5):=⟨(by rw [hw];exact (Rt_ (Kd.R_mono (Kd.R_far (p:=⟨gb5,6,none⟩) (Kd.R_far (p:=⟨gb5,5,none⟩) (Kd.R_far (p:=⟨gb5,4,none⟩) (Kd.R_far (p:=⟨gb5,3,none⟩) (Kd.R_far (p:=⟨gb5,2,none⟩) (Kd.R_far (p:=⟨gb5,1,none⟩) (Kd.R_far (p:=⟨gb5,0,none⟩) (Kd.R_types HO4.out BK4.out (by decide)) (fun _ hk=>hk.2) (.string a0)) (fun _ hk=>hk.2) (.slice A0 l0.length c0)) (fun _ hk=>hk.2) (.slice A2 l2.length c2)) (fun _ hk=>hk.2) (.slice A3 l3.length c9)) (fun _ hk=>hk.2) (.slice A4 l4.length c10)) (fun _ hk=>hk.2) (.slice A5 l5.length c11)) (fun _ hk=>hk.2) (.int .i64 a1)) (fun _ hk=>hk.1))))⟩;have n1:Aside0 (Kd.R (Kd.int .i64) 3 w37 w.heap.size (fun k_=>some k_≠(.slice Ao0 t5.length co0:Value).ownBlock) (.slice Ao2 t16.length co3) t16):=⟨(by rw [hw];exact (Rt_ (Kd.R_mono (Kd.R_far (p:=⟨gb5,6,none⟩) (Kd.R_far (p:=⟨gb5,5,none⟩) (Kd.R_far (p:=⟨gb5,4,none⟩) (Kd.R_far (p:=⟨gb5,3,none⟩) (Kd.R_far (p:=⟨gb5,2,none⟩) (Kd.R_far (p:=⟨gb5,1,none⟩) (Kd.R_far (p:=⟨gb5,0,none⟩) (Kd.R_types HO6.out BK4.out (by decide)) (fun _ hk=>hk.2) (.string a0)) (fun _ hk=>hk.2) (.slice A0 l0.length c0)) (fun _ hk=>hk.2) (.slice A2 l2.length c2)) (fun _ hk=>hk.2) (.slice A3 l3.length c9)) (fun _ hk=>hk.2) (.slice A4 l4.length c10)) (fun _ hk=>hk.2) (.slice A5 l5.length c11)) (fun _ hk=>hk.2) (.int .i64 a1)) (fun _ hk=>hk.1))))⟩;have n2:Aside0 (w37.heap[gb0]?=some (.cells #[.string a0,.slice A0 l0.length c0,.slice A2 l2.length c2,.slice A3 l3.length c9,.slice A4 l4.length c10,.slice A5 l5.length c11,.int .i64 a1] 28 (0,0))):=⟨(by rw [hw];exact (bx BK0))⟩;have n3:Aside0 (w37.heap[gb1]?=some (.cells #[.int .i64 t3,.int .i64 t4,.slice Ao0 t5.length co0] 39 (0,0))):=⟨(by rw [hw];exact (bx BK1))⟩;have n4:Aside0 (w37.heap[gb2]?=some (.cells #[.int .i64 t9,.int .i64 t10] 36 (0,0))):=⟨(by rw [hw];exact (bx BK2))⟩;have n5:Aside0 (w37.heap[gb4]?=some (.cells #[.int .i64 t14,.int .i64 t15,.slice Ao2 t16.length co3] 39 (0,0))):=⟨(by rw [hw];exact (bx BK3))⟩;have n6:Aside0 (w37.heap[gb5]?=some (.cells #[.string a0,.slice A0 l0.length c0,.slice A2 l2.length c2,.slice A3 l3.length c9,.slice A4 l4.length c10,.slice A5 l5.length c11,.int .i64 a1] 28 (0,0))):=⟨(by rw [hw];exact (br_ BK4))⟩;have n7:Aside0 (Below w.heap.size w w37):=⟨(by rw [hw];exact (bf HB))⟩;clear hw;clear HO4;clear HO6;clear BK0;clear BK1;clear BK2;clear BK3;clear BK4;clear HB;have HO4:=n0;have HO6:=n1;have BK0:=n2;have BK1:=n3;have BK2:=n4;have BK3:=n5;have BK4:=n6;have HB:=n7;clear n0 n1 n2 n3 n4 n5 n6 n7;have hcz19:=X.k7 BK0;have q8:((ji1):Int)≤((l4.length:Int):Int):=od_;obtain ⟨i0130,hi1,_,hsz1,_⟩:=info_parts info33;have hroom130:l4.length≤c10:=HC5.out;have hC1:Kd.C k33 _ A4 l4.length l4:=HR4.out;have hcut1:=cut_to (P:=Tryd.prog) 25 33 .i64 Tryd.underlying25 hi1 A4 l4.length c10 (ji1) (od_) q8 hroom130;have hr7:=Kd.C_take (m:=((ji1):Int).toNat) hC1 (by omega);have hy5:y3.length=((ji1):Int).toNat:=(by rw [Ny3.out,List.length_take];omega);rw [← Ny3.out] at hr7;rw [← hy5] at hcut1;have HR6:=am hr7;have HC9:=am (show y3.length≤c10 from by omega);clear hr7 hC1 hroom130 hi1 hsz1;have KY1:=am hy5;clear hy5;replace q8:=eq_true q8;have hcz20:=X.k7 BK4)|((with_reducible refine gc 7 rfl ?_);refine gl_ (some 102) rfl rfl Tryd.func7 ((crit_Sum.calls kj1 _ _ _ _ _ _ _ _ _ _ _ _ _ _ _ _ _ _ _ _ _ _ _ _ _ ?side1 ?side2 ?side3 ?side4 ?side5 ?side6 ?side7 ?side8 ?side9 ?side10 ?side11 ?side12 A85.out (tt GT)).mono ?_) ag;(case side1=>exact Kd.C_below HR0.out (bf HB));(case side2=>exact HC0.out);(case side3=>exact Kd.C_below HR2.out (bf HB));(case side4=>exact HC2.out);(case side5=>exact Kd.C_below HR3.out (bf HB));(case side6=>exact HC3.out);(case side7=>exact Kd.C_below HR6.out (bf HB));(case side8=>exact HC9.out);(case side9=>exact Kd.C_below HR5.out (bf HB));(case side10=>exact HC6.out);(case side11=>exact Kd.C_below HR1.out (bf HB));(case side12=>exact HC1.out);rintro e w42 ⟨v7,rfl,ho0,hb⟩;refine ⟨_,rfl,?_⟩;have HO7:=am (Kd.R_lower (Kd.R_new' (Kd.R_new' ho0 (Kd.R_lt (Rt_ (Kd.R_mono (Kd.R_far (p:=⟨gb5,4,none⟩) (Kd.R_types HO4.out BK4.out (by decide)) (fun _ hk=>hk.2) (.slice A4 y3.length c10)) (fun _ h_=>h_.1))))) (Kd.R_lt (Rt_ (Kd.R_mono (Kd.R_far (p:=⟨gb5,4,none⟩) (Kd.R_types HO6.out BK4.out (by decide)) (fun _ hk=>hk.2) (.slice A4 y3.length c10)) (fun _ h_=>h_.1))))) (below_size (bf HB)));replace HO4:=am (Kd.R_elder' (Rt_ (Kd.R_mono (Kd.R_far (p:=⟨gb5,4,none⟩) (Kd.R_types HO4.out BK4.out (by decide)) (fun _ hk=>hk.2) (.slice A4 y3.length c10)) (fun _ h_=>h_.1))) (Kd.R_base ho0) hb);replace HO6:=am (Kd.R_elder' (Rt_ (Kd.R_mono (Kd.R_far (p:=⟨gb5,4,none⟩) (Kd.R_types HO6.out BK4.out (by decide)) (fun _ hk=>hk.2) (.slice A4 y3.length c10)) (fun _ h_=>h_.1))) (Kd.R_base ho0) hb);replace BK0:=bb BK0 hb;replace BK1:=bb BK1 hb;replace BK2:=bb BK2 hb;replace BK3:=bb BK3 hb;replace BK4:=bp_ #[.string a0,.slice A0 l0.length c0,.slice A2 l2.length c2,.slice A3 l3.length c9,.slice A4 y3.length c10,.slice A5 l5.length c11,.int .i64 a1] BK4 hb;replace HB:=bs HB hb;(try clear hb);(try clear ho0))|((with_reducible refine gate_dst (N:=16) rfl ?_);(try (refine gate_guard (by rfl) ?_;dsimp only));refine box_event ?hg (N:=16) ?hd (cs:=#[.int .i64 0,.int .i64 0,.slice none 0 0]) (t:=39) ?hr ?_;(case hd=>rfl);(case hg=>rfl);(case hr=>first|(go_simp;done)|(go_simp;rfl));intro gb6 hg w43 hbox hb;have BK5:=am (hbox);have GW1:=bz HB hg;have GE5:=bz HB hg;have ⟨NB20,NB21⟩:=nb BK0 hg;have ⟨NB22,NB23⟩:=nb BK1 hg;have ⟨NB24,NB25⟩:=nb BK2 hg;have ⟨NB26,NB27⟩:=nb BK3 hg;have ⟨NB28,NB29⟩:=nb BK4 hg;replace HO4:=am (Kd.R_below (Rt_ HO4.out) hb);replace HO6:=am (Kd.R_below (Rt_ HO6.out) hb);replace HO7:=rb HO7 hb;replace BK0:=bb BK0 hb;replace BK1:=bb BK1 hb;replace BK2:=bb BK2 hb;replace BK3:=bb BK3 hb;replace HB:=bs HB hb;clear hb hg;have hnb32:=nn NB21;have hnb33:=nn NB23;have hnb34:=nn NB25;have hnb35:=nn NB27;have hnb36:=nn NB29;have hcz21:=X.k3 BK5;obtain ⟨Ao4,co5,eo5⟩:=Kd.R_slice HO7.out;subst eo5;have p6:0≤(ji0:Int):=od_;have q6:ji0<(l1.length:Int):=od_;obtain ⟨ad2,e2,hx14,hx15⟩:=at_T36 HR1.out ji0 p6 q6;cases e2;have hn2:ad2.block≠gb6:=Nat.ne_of_lt (Nat.lt_of_lt_of_le (by have:=World.block_lt_of_cell? _ _ hx14;first|rwa [add_block] at this|exact this) GW1.out);have hn3:ad2.block≠gb6:=Nat.ne_of_lt (Nat.lt_of_lt_of_le (by have:=World.block_lt_of_cell? _ _ hx14;first|rwa [add_block] at this|exact this) GW1.out);have hn4:ad2.block≠gb6:=Nat.ne_of_lt (Nat.lt_of_lt_of_le (by have:=World.block_lt_of_cell? _ _ hx14;first|rwa [add_block] at this|exact this) GW1.out);replace hx14:=hx_ HB hx14;replace hx15:=hx_ HB hx15;replace hx14:=(cell_far (p:=⟨gb6,0,none⟩) (by first|(rw [add_block];exact hn2)|(show (Addr.add _ _).block≠_;rw [add_block];exact hn2)|exact hn2) (.int .i64 t24)).trans hx14;replace hx15:=(cell_far (p:=⟨gb6,0,none⟩) (by first|(rw [add_block];exact hn2)|(show (Addr.add _ _).block≠_;rw [add_block];exact hn2)|exact hn2) (.int .i64 t24)).trans hx15;replace hx14:=(cell_far (p:=⟨gb6,1,none⟩) (by first|(rw [add_block];exact hn3)|(show (Addr.add _ _).block≠_;rw [add_block];exact hn3)|exact hn3) (.int .i64 t25)).trans hx14;replace hx15:=(cell_far (p:=⟨gb6,1,none⟩) (by first|(rw [add_block];exact hn3)|(show (Addr.add _ _).block≠_;rw [add_block];exact hn3)|exact hn3) (.int .i64 t25)).trans hx15;replace hx14:=(cell_far (p:=⟨gb6,2,none⟩) (by first|(rw [add_block];exact hn4)|(show (Addr.add _ _).block≠_;rw [add_block];exact hn4)|exact hn4) (.slice Ao4 t26.length co5)).trans hx14;replace hx15:=(cell_far (p:=⟨gb6,2,none⟩) (by first|(rw [add_block];exact hn4)|(show (Addr.add _ _).block≠_;rw [add_block];exact hn4)|exact hn4) (.slice Ao4 t26.length co5)).trans hx15;clear hn2;clear hn3;clear hn4;replace p6:=eq_true p6;replace q6:=eq_true q6;have hnb37:=nn NB4;have hnb38:=nn NB8;have hcz22:=X.k3 BK1)|(go_at_call 11;(with_reducible refine (carrefourref02_Cmp.calls kj1 _ _ _ _ _ _ A19.out).mono ?_);rintro e w44 ⟨rfl,hb⟩;replace HO4:=am (Kd.R_below (Rt_ (Kd.R_mono (Kd.R_far (p:=⟨gb6,2,none⟩) (Kd.R_far (p:=⟨gb6,1,none⟩) (Kd.R_far (p:=⟨gb6,0,none⟩) (Kd.R_types HO4.out BK5.out (by decide)) (fun _ hk=>hk.2) (.int .i64 t24)) (fun _ hk=>hk.2) (.int .i64 t25)) (fun _ hk=>hk.2) (.slice Ao4 t26.length co5)) (fun _ h_=>h_.1))) hb);replace HO6:=am (Kd.R_below (Rt_ (Kd.R_mono (Kd.R_far (p:=⟨gb6,2,none⟩) (Kd.R_far (p:=⟨gb6,1,none⟩) (Kd.R_far (p:=⟨gb6,0,none⟩) (Kd.R_types HO6.out BK5.out (by decide)) (fun _ hk=>hk.2) (.int .i64 t24)) (fun _ hk=>hk.2) (.int .i64 t25)) (fun _ hk=>hk.2) (.slice Ao4 t26.length co5)) (fun _ h_=>h_.1))) hb);replace HO7:=am (Kd.R_below (Rt_ (Kd.R_mono (Kd.R_far (p:=⟨gb6,2,none⟩) (Kd.R_far (p:=⟨gb6,1,none⟩) (Kd.R_far (p:=⟨gb6,0,none⟩) (Kd.R_types HO7.out BK5.out (by decide)) (fun _ hk=>hk.2) (.int .i64 t24)) (fun _ hk=>hk.2) (.int .i64 t25)) (fun _ hk=>hk.2) (.slice Ao4 t26.length co5)) (fun _ h_=>h_.1))) hb);replace BK0:=bb BK0 hb;replace BK1:=bb BK1 hb;replace BK2:=bb BK2 hb;replace BK3:=bb BK3 hb;replace BK5:=bp_ #[.int .i64 t24,.int .i64 t25,.slice Ao4 t26.length co5] BK5 hb;replace HB:=bs HB hb;(try clear hb))|(go_at_call 6;(with_reducible refine (carrefourlaw11_awake.calls kj1 _ _ A20.out (tt GT)).mono ?_);rintro e w45 ⟨rfl,hb⟩;replace HO4:=am (Kd.R_below (Rt_ HO4.out) hb);replace HO6:=am (Kd.R_below (Rt_ HO6.out) hb);replace HO7:=rb HO7 hb;replace BK0:=bb BK0 hb;replace BK1:=bb BK1 hb;replace BK2:=bb BK2 hb;replace BK3:=bb BK3 hb;replace HB:=bs HB hb;(try clear hb)))
 go_ret
 exact ⟨by first|rfl|(simp [errW_none,errW_some]<;>rfl)|(simp only [← hji0,← hji1];first|rfl|(simp [errW_none,errW_some]<;>rfl))|(simp [*,errW_none,errW_some]<;>rfl),bf HB⟩};{
 rw [if_neg c116] at H
 have c109:decide (t19≤0)=false:=decide_eq_false c116
 clear c116
 replace H:=bi_ H;obtain ⟨t21,A21,H⟩:=H
 (try dsimp only at H)
 by_cases c147:t21=true;{
 subst c147
 have H1:((carrefourlaw11_awake.f kj1).bind fun t22=>(some t22))=some r:=by rw [if_pos rfl] at H;exact H
 clear H
 have H:=H1
 clear H1
 replace H:=bi_ H;obtain ⟨t22,A22,H⟩:=H
 (try dsimp only at H)
 obtain rfl:=Option.some.inj H
 have hnb39:=nn NB0
 have hnb40:=nn NB2
 have hnb41:=nn NB6
 have hcz23:=X.k7 BK0
 go_wp2_with (first|((with_reducible refine gate_dst (N:=15) rfl ?_);(try (refine gate_guard (by rfl) ?_;dsimp only));refine box_event ?hg (N:=15) ?hd (cs:=#[.string (⟨#[]⟩:ByteArray),.slice none 0 0,.slice none 0 0,.slice none 0 0,.slice none 0 0,.slice none 0 0,.int .i64 0]) (t:=28) ?hr ?_;(case hd=>rfl);(case hg=>rfl);(case hr=>first|(go_simp;done)|(go_simp;rfl));intro gb5 hg w46 hbox hb;have BK4:=am (hbox);have GE4:=bz HB hg;have ⟨NB12,NB13⟩:=nb BK0 hg;have ⟨NB14,NB15⟩:=nb BK1 hg;have ⟨NB16,NB17⟩:=nb BK2 hg;have ⟨NB18,NB19⟩:=nb BK3 hg;replace HO4:=am (Kd.R_below (Rt_ HO4.out) hb);replace HO6:=am (Kd.R_below (Rt_ HO6.out) hb);replace BK0:=bb BK0 hb;replace BK1:=bb BK1 hb;replace BK2:=bb BK2 hb;replace BK3:=bb BK3 hb;replace HB:=bs HB hb;clear hb hg;have hnb42:=nn NB13;have hnb43:=nn NB15;have hnb44:=nn NB17;have hnb45:=nn NB19;have hcz24:=X.k7 BK4)|((with_reducible refine gate_store (t:=28) (p:=15) rfl ?_);refine store_event (t:=28) (p:=15) (v:=?vo_w159) (w1:=(((((((w46.setCell ⟨gb5,0,none⟩ (.string a0)).setCell ⟨gb5,1,none⟩ (.slice A0 l0.length c0)).setCell ⟨gb5,2,none⟩ (.slice A2 l2.length c2)).setCell ⟨gb5,3,none⟩ (.slice A3 l3.length c9)).setCell ⟨gb5,4,none⟩ (.slice A4 l4.length c10)).setCell ⟨gb5,5,none⟩ (.slice A5 l5.length c11)).setCell ⟨gb5,6,none⟩ (.int .i64 a1))) ?hg ?ho ?hn ?hr ?_;(case ho=>rfl);(case hg=>rfl);(case hn=>rfl);(case hr=>first|(go_simp;done)|(go_simp;rfl));intro w47 hw;have n0:Aside0 (Kd.R (Kd.int .i64) 3 w47 w.heap.size (fun k_=>some k_≠(.slice Ao2 t16.length co3:Value).ownBlock) (.slice Ao0 t5.length co0) t5):=⟨(by rw [hw];exact (Rt_ (Kd.R_mono (Kd.R_far (p:=⟨gb5,6,none⟩) (Kd.R_far (p:=⟨gb5,5,none⟩) (Kd.R_far (p:=⟨gb5,4,none⟩) (Kd.R_far (p:=⟨gb5,3,none⟩) (Kd.R_far (p:=⟨gb5,2,none⟩) (Kd.R_far (p:=⟨gb5,1,none⟩) (Kd.R_far (p:=⟨gb5,0,none⟩) (Kd.R_types HO4.out BK4.out (by decide)) (fun _ hk=>hk.2) (.string a0)) (fun _ hk=>hk.2) (.slice A0 l0.length c0)) (fun _ hk=>hk.2) (.slice A2 l2.length c2)) (fun _ hk=>hk.2) (.slice A3 l3.length c9)) (fun _ hk=>hk.2) (.slice A4 l4.length c10)) (fun _ hk=>hk.2) (.slice A5 l5.length c11)) (fun _ hk=>hk.2) (.int .i64 a1)) (fun _ hk=>hk.1))))⟩;have n1:Aside0 (Kd.R (Kd.int .i64) 3 w47 w.heap.size (fun k_=>some k_≠(.slice Ao0 t5.length co0:Value).ownBlock) (.slice Ao2 t16.length co3) t16):=⟨(by rw [hw];exact (Rt_ (Kd.R_mono (Kd.R_far (p:=⟨gb5,6,none⟩) (Kd.R_far (p:=⟨gb5,5,none⟩) (Kd.R_far (p:=⟨gb5,4,none⟩) (Kd.R_far (p:=⟨gb5,3,none⟩) (Kd.R_far (p:=⟨gb5,2,none⟩) (Kd.R_far (p:=⟨gb5,1,none⟩) (Kd.R_far (p:=⟨gb5,0,none⟩) (Kd.R_types HO6.out BK4.out (by decide)) (fun _ hk=>hk.2) (.string a0)) (fun _ hk=>hk.2) (.slice A0 l0.length c0)) (fun _ hk=>hk.2) (.slice A2 l2.length c2)) (fun _ hk=>hk.2) (.slice A3 l3.length c9)) (fun _ hk=>hk.2) (.slice A4 l4.length c10)) (fun _ hk=>hk.2) (.slice A5 l5.length c11)) (fun _ hk=>hk.2) (.int .i64 a1)) (fun _ hk=>hk.1))))⟩;have n2:Aside0 (w47.heap[gb0]?=some (.cells #[.string a0,.slice A0 l0.length c0,.slice A2 l2.length c2,.slice A3 l3.length c9,.slice A4 l4.length c10,.slice A5 l5.length c11,.int .i64 a1] 28 (0,0))):=⟨(by rw [hw];exact (bx BK0))⟩;have n3:Aside0 (w47.heap[gb1]?=some (.cells #[.int .i64 t3,.int .i64 t4,.slice Ao0 t5.length co0] 39 (0,0))):=⟨(by rw [hw];exact (bx BK1))⟩;have n4:Aside0 (w47.heap[gb2]?=some (.cells #[.int .i64 t9,.int .i64 t10] 36 (0,0))):=⟨(by rw [hw];exact (bx BK2))⟩;have n5:Aside0 (w47.heap[gb4]?=some (.cells #[.int .i64 t14,.int .i64 t15,.slice Ao2 t16.length co3] 39 (0,0))):=⟨(by rw [hw];exact (bx BK3))⟩;have n6:Aside0 (w47.heap[gb5]?=some (.cells #[.string a0,.slice A0 l0.length c0,.slice A2 l2.length c2,.slice A3 l3.length c9,.slice A4 l4.length c10,.slice A5 l5.length c11,.int .i64 a1] 28 (0,0))):=⟨(by rw [hw];exact (br_ BK4))⟩;have n7:Aside0 (Below w.heap.size w w47):=⟨(by rw [hw];exact (bf HB))⟩;clear hw;clear HO4;clear HO6;clear BK0;clear BK1;clear BK2;clear BK3;clear BK4;clear HB;have HO4:=n0;have HO6:=n1;have BK0:=n2;have BK1:=n3;have BK2:=n4;have BK3:=n5;have BK4:=n6;have HB:=n7;clear n0 n1 n2 n3 n4 n5 n6 n7;have hcz25:=X.k7 BK0;have q9:((ji1):Int)≤((l4.length:Int):Int):=od_;obtain ⟨i0161,hi2,_,hsz2,_⟩:=info_parts info33;have hroom161:l4.length≤c10:=HC5.out;have hC2:Kd.C k33 _ A4 l4.length l4:=HR4.out;have hcut2:=cut_to (P:=Tryd.prog) 25 33 .i64 Tryd.underlying25 hi2 A4 l4.length c10 (ji1) (od_) q9 hroom161;have hr8:=Kd.C_take (m:=((ji1):Int).toNat) hC2 (by omega);have hy6:y3.length=((ji1):Int).toNat:=(by rw [Ny3.out,List.length_take];omega);rw [← Ny3.out] at hr8;rw [← hy6] at hcut2;have HR6:=am hr8;have HC9:=am (show y3.length≤c10 from by omega);clear hr8 hC2 hroom161 hi2 hsz2;have KY2:=am hy6;clear hy6;replace q9:=eq_true q9;have hcz26:=X.k7 BK4)|((with_reducible refine gc 7 rfl ?_);refine gl_ (some 102) rfl rfl Tryd.func7 ((crit_Sum.calls kj1 _ _ _ _ _ _ _ _ _ _ _ _ _ _ _ _ _ _ _ _ _ _ _ _ _ ?side1 ?side2 ?side3 ?side4 ?side5 ?side6 ?side7 ?side8 ?side9 ?side10 ?side11 ?side12 A85.out (tt GT)).mono ?_) ag;(case side1=>exact Kd.C_below HR0.out (bf HB));(case side2=>exact HC0.out);(case side3=>exact Kd.C_below HR2.out (bf HB));(case side4=>exact HC2.out);(case side5=>exact Kd.C_below HR3.out (bf HB));(case side6=>exact HC3.out);(case side7=>exact Kd.C_below HR6.out (bf HB));(case side8=>exact HC9.out);(case side9=>exact Kd.C_below HR5.out (bf HB));(case side10=>exact HC6.out);(case side11=>exact Kd.C_below HR1.out (bf HB));(case side12=>exact HC1.out);rintro e w49 ⟨v7,rfl,ho0,hb⟩;refine ⟨_,rfl,?_⟩;have HO7:=am (Kd.R_lower (Kd.R_new' (Kd.R_new' ho0 (Kd.R_lt (Rt_ (Kd.R_mono (Kd.R_far (p:=⟨gb5,4,none⟩) (Kd.R_types HO4.out BK4.out (by decide)) (fun _ hk=>hk.2) (.slice A4 y3.length c10)) (fun _ h_=>h_.1))))) (Kd.R_lt (Rt_ (Kd.R_mono (Kd.R_far (p:=⟨gb5,4,none⟩) (Kd.R_types HO6.out BK4.out (by decide)) (fun _ hk=>hk.2) (.slice A4 y3.length c10)) (fun _ h_=>h_.1))))) (below_size (bf HB)));replace HO4:=am (Kd.R_elder' (Rt_ (Kd.R_mono (Kd.R_far (p:=⟨gb5,4,none⟩) (Kd.R_types HO4.out BK4.out (by decide)) (fun _ hk=>hk.2) (.slice A4 y3.length c10)) (fun _ h_=>h_.1))) (Kd.R_base ho0) hb);replace HO6:=am (Kd.R_elder' (Rt_ (Kd.R_mono (Kd.R_far (p:=⟨gb5,4,none⟩) (Kd.R_types HO6.out BK4.out (by decide)) (fun _ hk=>hk.2) (.slice A4 y3.length c10)) (fun _ h_=>h_.1))) (Kd.R_base ho0) hb);replace BK0:=bb BK0 hb;replace BK1:=bb BK1 hb;replace BK2:=bb BK2 hb;replace BK3:=bb BK3 hb;replace BK4:=bp_ #[.string a0,.slice A0 l0.length c0,.slice A2 l2.length c2,.slice A3 l3.length c9,.slice A4 y3.length c10,.slice A5 l5.length c11,.int .i64 a1] BK4 hb;replace HB:=bs HB hb;(try clear hb);(try clear ho0))|((with_reducible refine gate_dst (N:=16) rfl ?_);(try (refine gate_guard (by rfl) ?_;dsimp only));refine box_event ?hg (N:=16) ?hd (cs:=#[.int .i64 0,.int .i64 0,.slice none 0 0]) (t:=39) ?hr ?_;(case hd=>rfl);(case hg=>rfl);(case hr=>first|(go_simp;done)|(go_simp;rfl));intro gb6 hg w50 hbox hb;have BK5:=am (hbox);have GW1:=bz HB hg;have GE5:=bz HB hg;have ⟨NB20,NB21⟩:=nb BK0 hg;have ⟨NB22,NB23⟩:=nb BK1 hg;have ⟨NB24,NB25⟩:=nb BK2 hg;have ⟨NB26,NB27⟩:=nb BK3 hg;have ⟨NB28,NB29⟩:=nb BK4 hg;replace HO4:=am (Kd.R_below (Rt_ HO4.out) hb);replace HO6:=am (Kd.R_below (Rt_ HO6.out) hb);replace HO7:=rb HO7 hb;replace BK0:=bb BK0 hb;replace BK1:=bb BK1 hb;replace BK2:=bb BK2 hb;replace BK3:=bb BK3 hb;replace HB:=bs HB hb;clear hb hg;have hnb46:=nn NB21;have hnb47:=nn NB23;have hnb48:=nn NB25;have hnb49:=nn NB27;have hnb50:=nn NB29;have hcz28:=X.k3 BK5;obtain ⟨Ao5,co6,eo6⟩:=Kd.R_slice HO7.out;subst eo6;have p6:0≤(ji0:Int):=od_;have q6:ji0<(l1.length:Int):=od_;obtain ⟨ad2,e2,hx14,hx15⟩:=at_T36 HR1.out ji0 p6 q6;cases e2;have hn2:ad2.block≠gb6:=Nat.ne_of_lt (Nat.lt_of_lt_of_le (by have:=World.block_lt_of_cell? _ _ hx14;first|rwa [add_block] at this|exact this) GW1.out);have hn3:ad2.block≠gb6:=Nat.ne_of_lt (Nat.lt_of_lt_of_le (by have:=World.block_lt_of_cell? _ _ hx14;first|rwa [add_block] at this|exact this) GW1.out);have hn4:ad2.block≠gb6:=Nat.ne_of_lt (Nat.lt_of_lt_of_le (by have:=World.block_lt_of_cell? _ _ hx14;first|rwa [add_block] at this|exact this) GW1.out);replace hx14:=hx_ HB hx14;replace hx15:=hx_ HB hx15;replace hx14:=(cell_far (p:=⟨gb6,0,none⟩) (by first|(rw [add_block];exact hn2)|(show (Addr.add _ _).block≠_;rw [add_block];exact hn2)|exact hn2) (.int .i64 t24)).trans hx14;replace hx15:=(cell_far (p:=⟨gb6,0,none⟩) (by first|(rw [add_block];exact hn2)|(show (Addr.add _ _).block≠_;rw [add_block];exact hn2)|exact hn2) (.int .i64 t24)).trans hx15;replace hx14:=(cell_far (p:=⟨gb6,1,none⟩) (by first|(rw [add_block];exact hn3)|(show (Addr.add _ _).block≠_;rw [add_block];exact hn3)|exact hn3) (.int .i64 t25)).trans hx14;replace hx15:=(cell_far (p:=⟨gb6,1,none⟩) (by first|(rw [add_block];exact hn3)|(show (Addr.add _ _).block≠_;rw [add_block];exact hn3)|exact hn3) (.int .i64 t25)).trans hx15;replace hx14:=(cell_far (p:=⟨gb6,2,none⟩) (by first|(rw [add_block];exact hn4)|(show (Addr.add _ _).block≠_;rw [add_block];exact hn4)|exact hn4) (.slice Ao5 t26.length co6)).trans hx14;replace hx15:=(cell_far (p:=⟨gb6,2,none⟩) (by first|(rw [add_block];exact hn4)|(show (Addr.add _ _).block≠_;rw [add_block];exact hn4)|exact hn4) (.slice Ao5 t26.length co6)).trans hx15;clear hn2;clear hn3;clear hn4;replace p6:=eq_true p6;replace q6:=eq_true q6;have hnb51:=nn NB4;have hnb52:=nn NB8;have hcz29:=X.k3 BK1)|(go_at_call 11;(with_reducible refine (carrefourref02_Cmp.calls kj1 _ _ _ _ _ _ A19.out).mono ?_);rintro e w52 ⟨rfl,hb⟩;replace HO4:=am (Kd.R_below (Rt_ (Kd.R_mono (Kd.R_far (p:=⟨gb6,2,none⟩) (Kd.R_far (p:=⟨gb6,1,none⟩) (Kd.R_far (p:=⟨gb6,0,none⟩) (Kd.R_types HO4.out BK5.out (by decide)) (fun _ hk=>hk.2) (.int .i64 t24)) (fun _ hk=>hk.2) (.int .i64 t25)) (fun _ hk=>hk.2) (.slice Ao5 t26.length co6)) (fun _ h_=>h_.1))) hb);replace HO6:=am (Kd.R_below (Rt_ (Kd.R_mono (Kd.R_far (p:=⟨gb6,2,none⟩) (Kd.R_far (p:=⟨gb6,1,none⟩) (Kd.R_far (p:=⟨gb6,0,none⟩) (Kd.R_types HO6.out BK5.out (by decide)) (fun _ hk=>hk.2) (.int .i64 t24)) (fun _ hk=>hk.2) (.int .i64 t25)) (fun _ hk=>hk.2) (.slice Ao5 t26.length co6)) (fun _ h_=>h_.1))) hb);replace HO7:=am (Kd.R_below (Rt_ (Kd.R_mono (Kd.R_far (p:=⟨gb6,2,none⟩) (Kd.R_far (p:=⟨gb6,1,none⟩) (Kd.R_far (p:=⟨gb6,0,none⟩) (Kd.R_types HO7.out BK5.out (by decide)) (fun _ hk=>hk.2) (.int .i64 t24)) (fun _ hk=>hk.2) (.int .i64 t25)) (fun _ hk=>hk.2) (.slice Ao5 t26.length co6)) (fun _ h_=>h_.1))) hb);replace BK0:=bb BK0 hb;replace BK1:=bb BK1 hb;replace BK2:=bb BK2 hb;replace BK3:=bb BK3 hb;replace BK5:=bp_ #[.int .i64 t24,.int .i64 t25,.slice Ao5 t26.length co6] BK5 hb;replace HB:=bs HB hb;(try clear hb))|(go_at_call 15;(with_reducible refine (carrefourlaw11_below.calls kj1 _ _ _ _ _ ?side1 ?side2 A21.out).mono ?_);(case side1=>repeat (first|exact (Kd.C_below HR1.out HB.out)|(with_reducible refine Kd.C_alloc ?_ _)|(with_reducible refine Kd.C_drewN ?_ _)|(with_reducible refine Kd.C_drew ?_)));(case side2=>exact HC1.out);rintro e w' ⟨rfl,⟨nd,rfl⟩⟩)|(go_at_call 6;(with_reducible refine (carrefourlaw11_awake.calls kj1 _ _ A22.out (tt GT)).mono ?_);rintro e w53 ⟨rfl,hb⟩;replace HO4:=am (Kd.R_below (Rt_ HO4.out) hb);replace HO6:=am (Kd.R_below (Rt_ HO6.out) hb);replace HO7:=rb HO7 hb;replace BK0:=bb BK0 hb;replace BK1:=bb BK1 hb;replace BK2:=bb BK2 hb;replace BK3:=bb BK3 hb;replace HB:=bs HB hb;(try clear hb)))
 go_ret
 exact ⟨by first|rfl|(simp [errW_none,errW_some]<;>rfl)|(simp only [← hji0,← hji1];first|rfl|(simp [errW_none,errW_some]<;>rfl))|(simp [*,errW_none,errW_some]<;>rfl),bf HB⟩};{
 replace c147:=Bool.eq_false_iff.mpr c147
 subst c147
 have H1:(some false)=some r:=by rw [if_neg (show ¬ (false=true) by decide)] at H;exact H
 clear H
 have H:=H1
 clear H1
 obtain rfl:=Option.some.inj H
 have hnb53:=nn NB0
 have hnb54:=nn NB2
 have hnb55:=nn NB6
 have hcz30:=X.k7 BK0
 go_wp2_with (first|((with_reducible refine gate_dst (N:=15) rfl ?_);(try (refine gate_guard (by rfl) ?_;dsimp only));refine box_event ?hg (N:=15) ?hd (cs:=#[.string (⟨#[]⟩:ByteArray),.slice none 0 0,.slice none 0 0,.slice none 0 0,.slice none 0 0,.slice none 0 0,.int .i64 0]) (t:=28) ?hr ?_;(case hd=>rfl);(case hg=>rfl);(case hr=>first|(go_simp;done)|(go_simp;rfl));intro gb5 hg w54 hbox hb;have BK4:=am (hbox);have GE4:=bz HB hg;have ⟨NB12,NB13⟩:=nb BK0 hg;have ⟨NB14,NB15⟩:=nb BK1 hg;have ⟨NB16,NB17⟩:=nb BK2 hg;have ⟨NB18,NB19⟩:=nb BK3 hg;replace HO4:=am (Kd.R_below (Rt_ HO4.out) hb);replace HO6:=am (Kd.R_below (Rt_ HO6.out) hb);replace BK0:=bb BK0 hb;replace BK1:=bb BK1 hb;replace BK2:=bb BK2 hb;replace BK3:=bb BK3 hb;replace HB:=bs HB hb;clear hb hg;have hnb56:=nn NB13;have hnb59:=nn NB15;have hnb60:=nn NB17;have hnb61:=nn NB19;have hcz32:=X.k7 BK4)|((with_reducible refine gate_store (t:=28) (p:=15) rfl ?_);refine store_event (t:=28) (p:=15) (v:=?vo_w187) (w1:=(((((((w54.setCell ⟨gb5,0,none⟩ (.string a0)).setCell ⟨gb5,1,none⟩ (.slice A0 l0.length c0)).setCell ⟨gb5,2,none⟩ (.slice A2 l2.length c2)).setCell ⟨gb5,3,none⟩ (.slice A3 l3.length c9)).setCell ⟨gb5,4,none⟩ (.slice A4 l4.length c10)).setCell ⟨gb5,5,none⟩ (.slice A5 l5.length c11)).setCell ⟨gb5,6,none⟩ (.int .i64 a1))) ?hg ?ho ?hn ?hr ?_;(case ho=>rfl);(case hg=>rfl);(case hn=>rfl);(case hr=>first|(go_simp;done)|(go_simp;rfl));intro w55 hw;have n0:Aside0 (Kd.R (Kd.int .i64) 3 w55 w.heap.size (fun k_=>some k_≠(.slice Ao2 t16.length co3:Value).ownBlock) (.slice Ao0 t5.length co0) t5):=⟨(by rw [hw];exact (Rt_ (Kd.R_mono (Kd.R_far (p:=⟨gb5,6,none⟩) (Kd.R_far (p:=⟨gb5,5,none⟩) (Kd.R_far (p:=⟨gb5,4,none⟩) (Kd.R_far (p:=⟨gb5,3,none⟩) (Kd.R_far (p:=⟨gb5,2,none⟩) (Kd.R_far (p:=⟨gb5,1,none⟩) (Kd.R_far (p:=⟨gb5,0,none⟩) (Kd.R_types HO4.out BK4.out (by decide)) (fun _ hk=>hk.2) (.string a0)) (fun _ hk=>hk.2) (.slice A0 l0.length c0)) (fun _ hk=>hk.2) (.slice A2 l2.length c2)) (fun _ hk=>hk.2) (.slice A3 l3.length c9)) (fun _ hk=>hk.2) (.slice A4 l4.length c10)) (fun _ hk=>hk.2) (.slice A5 l5.length c11)) (fun _ hk=>hk.2) (.int .i64 a1)) (fun _ hk=>hk.1))))⟩;have n1:Aside0 (Kd.R (Kd.int .i64) 3 w55 w.heap.size (fun k_=>some k_≠(.slice Ao0 t5.length co0:Value).ownBlock) (.slice Ao2 t16.length co3) t16):=⟨(by rw [hw];exact (Rt_ (Kd.R_mono (Kd.R_far (p:=⟨gb5,6,none⟩) (Kd.R_far (p:=⟨gb5,5,none⟩) (Kd.R_far (p:=⟨gb5,4,none⟩) (Kd.R_far (p:=⟨gb5,3,none⟩) (Kd.R_far (p:=⟨gb5,2,none⟩) (Kd.R_far (p:=⟨gb5,1,none⟩) (Kd.R_far (p:=⟨gb5,0,none⟩) (Kd.R_types HO6.out BK4.out (by decide)) (fun _ hk=>hk.2) (.string a0)) (fun _ hk=>hk.2) (.slice A0 l0.length c0)) (fun _ hk=>hk.2) (.slice A2 l2.length c2)) (fun _ hk=>hk.2) (.slice A3 l3.length c9)) (fun _ hk=>hk.2) (.slice A4 l4.length c10)) (fun _ hk=>hk.2) (.slice A5 l5.length c11)) (fun _ hk=>hk.2) (.int .i64 a1)) (fun _ hk=>hk.1))))⟩;have n2:Aside0 (w55.heap[gb0]?=some (.cells #[.string a0,.slice A0 l0.length c0,.slice A2 l2.length c2,.slice A3 l3.length c9,.slice A4 l4.length c10,.slice A5 l5.length c11,.int .i64 a1] 28 (0,0))):=⟨(by rw [hw];exact (bx BK0))⟩;have n3:Aside0 (w55.heap[gb1]?=some (.cells #[.int .i64 t3,.int .i64 t4,.slice Ao0 t5.length co0] 39 (0,0))):=⟨(by rw [hw];exact (bx BK1))⟩;have n4:Aside0 (w55.heap[gb2]?=some (.cells #[.int .i64 t9,.int .i64 t10] 36 (0,0))):=⟨(by rw [hw];exact (bx BK2))⟩;have n5:Aside0 (w55.heap[gb4]?=some (.cells #[.int .i64 t14,.int .i64 t15,.slice Ao2 t16.length co3] 39 (0,0))):=⟨(by rw [hw];exact (bx BK3))⟩;have n6:Aside0 (w55.heap[gb5]?=some (.cells #[.string a0,.slice A0 l0.length c0,.slice A2 l2.length c2,.slice A3 l3.length c9,.slice A4 l4.length c10,.slice A5 l5.length c11,.int .i64 a1] 28 (0,0))):=⟨(by rw [hw];exact (br_ BK4))⟩;have n7:Aside0 (Below w.heap.size w w55):=⟨(by rw [hw];exact (bf HB))⟩;clear hw;clear HO4;clear HO6;clear BK0;clear BK1;clear BK2;clear BK3;clear BK4;clear HB;have HO4:=n0;have HO6:=n1;have BK0:=n2;have BK1:=n3;have BK2:=n4;have BK3:=n5;have BK4:=n6;have HB:=n7;clear n0 n1 n2 n3 n4 n5 n6 n7;have hcz33:=X.k7 BK0;have q10:((ji1):Int)≤((l4.length:Int):Int):=od_;obtain ⟨i0189,hi3,_,hsz3,_⟩:=info_parts info33;have hroom189:l4.length≤c10:=HC5.out;have hC3:Kd.C k33 _ A4 l4.length l4:=HR4.out;have hcut3:=cut_to (P:=Tryd.prog) 25 33 .i64 Tryd.underlying25 hi3 A4 l4.length c10 (ji1) (od_) q10 hroom189;have hr9:=Kd.C_take (m:=((ji1):Int).toNat) hC3 (by omega);have hy7:y3.length=((ji1):Int).toNat:=(by rw [Ny3.out,List.length_take];omega);rw [← Ny3.out] at hr9;rw [← hy7] at hcut3;have HR6:=am hr9;have HC9:=am (show y3.length≤c10 from by omega);clear hr9 hC3 hroom189 hi3 hsz3;have KY3:=am hy7;clear hy7;replace q10:=eq_true q10;have hcz34:=X.k7 BK4)|((with_reducible refine gc 7 rfl ?_);refine gl_ (some 102) rfl rfl Tryd.func7 ((crit_Sum.calls kj1 _ _ _ _ _ _ _ _ _ _ _ _ _ _ _ _ _ _ _ _ _ _ _ _ _ ?side1 ?side2 ?side3 ?side4 ?side5 ?side6 ?side7 ?side8 ?side9 ?side10 ?side11 ?side12 A85.out (tt GT)).mono ?_) ag;(case side1=>exact Kd.C_below HR0.out (bf HB));(case side2=>exact HC0.out);(case side3=>exact Kd.C_below HR2.out (bf HB));(case side4=>exact HC2.out);(case side5=>exact Kd.C_below HR3.out (bf HB));(case side6=>exact HC3.out);(case side7=>exact Kd.C_below HR6.out (bf HB));(case side8=>exact HC9.out);(case side9=>exact Kd.C_below HR5.out (bf HB));(case side10=>exact HC6.out);(case side11=>exact Kd.C_below HR1.out (bf HB));(case side12=>exact HC1.out);rintro e w56 ⟨v7,rfl,ho0,hb⟩;refine ⟨_,rfl,?_⟩;have HO7:=am (Kd.R_lower (Kd.R_new' (Kd.R_new' ho0 (Kd.R_lt (Rt_ (Kd.R_mono (Kd.R_far (p:=⟨gb5,4,none⟩) (Kd.R_types HO4.out BK4.out (by decide)) (fun _ hk=>hk.2) (.slice A4 y3.length c10)) (fun _ h_=>h_.1))))) (Kd.R_lt (Rt_ (Kd.R_mono (Kd.R_far (p:=⟨gb5,4,none⟩) (Kd.R_types HO6.out BK4.out (by decide)) (fun _ hk=>hk.2) (.slice A4 y3.length c10)) (fun _ h_=>h_.1))))) (below_size (bf HB)));replace HO4:=am (Kd.R_elder' (Rt_ (Kd.R_mono (Kd.R_far (p:=⟨gb5,4,none⟩) (Kd.R_types HO4.out BK4.out (by decide)) (fun _ hk=>hk.2) (.slice A4 y3.length c10)) (fun _ h_=>h_.1))) (Kd.R_base ho0) hb);replace HO6:=am (Kd.R_elder' (Rt_ (Kd.R_mono (Kd.R_far (p:=⟨gb5,4,none⟩) (Kd.R_types HO6.out BK4.out (by decide)) (fun _ hk=>hk.2) (.slice A4 y3.length c10)) (fun _ h_=>h_.1))) (Kd.R_base ho0) hb);replace BK0:=bb BK0 hb;replace BK1:=bb BK1 hb;replace BK2:=bb BK2 hb;replace BK3:=bb BK3 hb;replace BK4:=bp_ #[.string a0,.slice A0 l0.length c0,.slice A2 l2.length c2,.slice A3 l3.length c9,.slice A4 y3.length c10,.slice A5 l5.length c11,.int .i64 a1] BK4 hb;replace HB:=bs HB hb;(try clear hb);(try clear ho0))|((with_reducible refine gate_dst (N:=16) rfl ?_);(try (refine gate_guard (by rfl) ?_;dsimp only));refine box_event ?hg (N:=16) ?hd (cs:=#[.int .i64 0,.int .i64 0,.slice none 0 0]) (t:=39) ?hr ?_;(case hd=>rfl);(case hg=>rfl);(case hr=>first|(go_simp;done)|(go_simp;rfl));intro gb6 hg w57 hbox hb;have BK5:=am (hbox);have GW1:=bz HB hg;have GE5:=bz HB hg;have ⟨NB20,NB21⟩:=nb BK0 hg;have ⟨NB22,NB23⟩:=nb BK1 hg;have ⟨NB24,NB25⟩:=nb BK2 hg;have ⟨NB26,NB27⟩:=nb BK3 hg;have ⟨NB28,NB29⟩:=nb BK4 hg;replace HO4:=am (Kd.R_below (Rt_ HO4.out) hb);replace HO6:=am (Kd.R_below (Rt_ HO6.out) hb);replace HO7:=rb HO7 hb;replace BK0:=bb BK0 hb;replace BK1:=bb BK1 hb;replace BK2:=bb BK2 hb;replace BK3:=bb BK3 hb;replace HB:=bs HB hb;clear hb hg;have hnb63:=nn NB21;have hnb64:=nn NB23;have hnb65:=nn NB25;have hnb69:=nn NB27;have hnb70:=nn NB29;have hcz35:=X.k3 BK5;obtain ⟨Ao6,co7,eo7⟩:=Kd.R_slice HO7.out;subst eo7;have p6:0≤(ji0:Int):=od_;have q6:ji0<(l1.length:Int):=od_;obtain ⟨ad2,e2,hx14,hx15⟩:=at_T36 HR1.out ji0 p6 q6;cases e2;have hn2:ad2.block≠gb6:=Nat.ne_of_lt (Nat.lt_of_lt_of_le (by have:=World.block_lt_of_cell? _ _ hx14;first|rwa [add_block] at this|exact this) GW1.out);have hn3:ad2.block≠gb6:=Nat.ne_of_lt (Nat.lt_of_lt_of_le (by have:=World.block_lt_of_cell? _ _ hx14;first|rwa [add_block] at this|exact this) GW1.out);have hn4:ad2.block≠gb6:=Nat.ne_of_lt (Nat.lt_of_lt_of_le (by have:=World.block_lt_of_cell? _ _ hx14;first|rwa [add_block] at this|exact this) GW1.out);replace hx14:=hx_ HB hx14;replace hx15:=hx_ HB hx15;replace hx14:=(cell_far (p:=⟨gb6,0,none⟩) (by first|(rw [add_block];exact hn2)|(show (Addr.add _ _).block≠_;rw [add_block];exact hn2)|exact hn2) (.int .i64 t24)).trans hx14;replace hx15:=(cell_far (p:=⟨gb6,0,none⟩) (by first|(rw [add_block];exact hn2)|(show (Addr.add _ _).block≠_;rw [add_block];exact hn2)|exact hn2) (.int .i64 t24)).trans hx15;replace hx14:=(cell_far (p:=⟨gb6,1,none⟩) (by first|(rw [add_block];exact hn3)|(show (Addr.add _ _).block≠_;rw [add_block];exact hn3)|exact hn3) (.int .i64 t25)).trans hx14;replace hx15:=(cell_far (p:=⟨gb6,1,none⟩) (by first|(rw [add_block];exact hn3)|(show (Addr.add _ _).block≠_;rw [add_block];exact hn3)|exact hn3) (.int .i64 t25)).trans hx15;replace hx14:=(cell_far (p:=⟨gb6,2,none⟩) (by first|(rw [add_block];exact hn4)|(show (Addr.add _ _).block≠_;rw [add_block];exact hn4)|exact hn4) (.slice Ao6 t26.length co7)).trans hx14;replace hx15:=(cell_far (p:=⟨gb6,2,none⟩) (by first|(rw [add_block];exact hn4)|(show (Addr.add _ _).block≠_;rw [add_block];exact hn4)|exact hn4) (.slice Ao6 t26.length co7)).trans hx15;clear hn2;clear hn3;clear hn4;replace p6:=eq_true p6;replace q6:=eq_true q6;have hnb71:=nn NB4;have hnb72:=nn NB8;have hcz36:=X.k3 BK1)|(go_at_call 11;(with_reducible refine (carrefourref02_Cmp.calls kj1 _ _ _ _ _ _ A19.out).mono ?_);rintro e w58 ⟨rfl,hb⟩;replace HO4:=am (Kd.R_below (Rt_ (Kd.R_mono (Kd.R_far (p:=⟨gb6,2,none⟩) (Kd.R_far (p:=⟨gb6,1,none⟩) (Kd.R_far (p:=⟨gb6,0,none⟩) (Kd.R_types HO4.out BK5.out (by decide)) (fun _ hk=>hk.2) (.int .i64 t24)) (fun _ hk=>hk.2) (.int .i64 t25)) (fun _ hk=>hk.2) (.slice Ao6 t26.length co7)) (fun _ h_=>h_.1))) hb);replace HO6:=am (Kd.R_below (Rt_ (Kd.R_mono (Kd.R_far (p:=⟨gb6,2,none⟩) (Kd.R_far (p:=⟨gb6,1,none⟩) (Kd.R_far (p:=⟨gb6,0,none⟩) (Kd.R_types HO6.out BK5.out (by decide)) (fun _ hk=>hk.2) (.int .i64 t24)) (fun _ hk=>hk.2) (.int .i64 t25)) (fun _ hk=>hk.2) (.slice Ao6 t26.length co7)) (fun _ h_=>h_.1))) hb);replace HO7:=am (Kd.R_below (Rt_ (Kd.R_mono (Kd.R_far (p:=⟨gb6,2,none⟩) (Kd.R_far (p:=⟨gb6,1,none⟩) (Kd.R_far (p:=⟨gb6,0,none⟩) (Kd.R_types HO7.out BK5.out (by decide)) (fun _ hk=>hk.2) (.int .i64 t24)) (fun _ hk=>hk.2) (.int .i64 t25)) (fun _ hk=>hk.2) (.slice Ao6 t26.length co7)) (fun _ h_=>h_.1))) hb);replace BK0:=bb BK0 hb;replace BK1:=bb BK1 hb;replace BK2:=bb BK2 hb;replace BK3:=bb BK3 hb;replace BK5:=bp_ #[.int .i64 t24,.int .i64 t25,.slice Ao6 t26.length co7] BK5 hb;replace HB:=bs HB hb;(try clear hb))|(go_at_call 15;(with_reducible refine (carrefourlaw11_below.calls kj1 _ _ _ _ _ ?side1 ?side2 A21.out).mono ?_);(case side1=>repeat (first|exact (Kd.C_below HR1.out HB.out)|(with_reducible refine Kd.C_alloc ?_ _)|(with_reducible refine Kd.C_drewN ?_ _)|(with_reducible refine Kd.C_drew ?_)));(case side2=>exact HC1.out);rintro e w' ⟨rfl,⟨nd,rfl⟩⟩))
 go_ret
 exact ⟨by first|rfl|(simp [errW_none,errW_some]<;>rfl)|(simp only [← hji0,← hji1];first|rfl|(simp [errW_none,errW_some]<;>rfl))|(simp [*,errW_none,errW_some]<;>rfl),bf HB⟩}}}};{
 rw [if_neg c88] at H
 exact absurd H (by simp)}};{
 rw [if_neg c87] at H
 exact absurd H (by simp)}};{
 rw [if_neg c86] at H
 have c100:(t27==0)=false:=beq_eq_false_iff_ne.mpr c86
 have c101:(t27 != 0)=true:=bne_iff_ne.mpr c86
 replace H:=bi_ H;obtain ⟨t23,A23,H⟩:=H
 (try dsimp only at H)
 obtain rfl:=Option.some.inj H
 have hnb76:=nn NB0
 have hnb79:=nn NB2
 have hnb80:=nn NB6
 have hcz37:=X.k7 BK0
 go_wp2_with (first|((with_reducible refine gate_dst (N:=15) rfl ?_);(try (refine gate_guard (by rfl) ?_;dsimp only));refine box_event ?hg (N:=15) ?hd (cs:=#[.string (⟨#[]⟩:ByteArray),.slice none 0 0,.slice none 0 0,.slice none 0 0,.slice none 0 0,.slice none 0 0,.int .i64 0]) (t:=28) ?hr ?_;(case hd=>rfl);(case hg=>rfl);(case hr=>first|(go_simp;done)|(go_simp;rfl));intro gb5 hg w59 hbox hb;have BK4:=am (hbox);have GE4:=bz HB hg;have ⟨NB12,NB13⟩:=nb BK0 hg;have ⟨NB14,NB15⟩:=nb BK1 hg;have ⟨NB16,NB17⟩:=nb BK2 hg;have ⟨NB18,NB19⟩:=nb BK3 hg;replace HO4:=am (Kd.R_below (Rt_ HO4.out) hb);replace HO6:=am (Kd.R_below (Rt_ HO6.out) hb);replace BK0:=bb BK0 hb;replace BK1:=bb BK1 hb;replace BK2:=bb BK2 hb;replace BK3:=bb BK3 hb;replace HB:=bs HB hb;clear hb hg;have hnb81:=nn NB13;have hnb82:=nn NB15;have hnb83:=nn NB17;have hnb84:=nn NB19;have hcz38:=X.k7 BK4)|((with_reducible refine gate_store (t:=28) (p:=15) rfl ?_);refine store_event (t:=28) (p:=15) (v:=?vo_w215) (w1:=(((((((w59.setCell ⟨gb5,0,none⟩ (.string a0)).setCell ⟨gb5,1,none⟩ (.slice A0 l0.length c0)).setCell ⟨gb5,2,none⟩ (.slice A2 l2.length c2)).setCell ⟨gb5,3,none⟩ (.slice A3 l3.length c9)).setCell ⟨gb5,4,none⟩ (.slice A4 l4.length c10)).setCell ⟨gb5,5,none⟩ (.slice A5 l5.length c11)).setCell ⟨gb5,6,none⟩ (.int .i64 a1))) ?hg ?ho ?hn ?hr ?_;(case ho=>rfl);(case hg=>rfl);(case hn=>rfl);(case hr=>first|(go_simp;done)|(go_simp;rfl));intro w60 hw;have n0:Aside0 (Kd.R (Kd.int .i64) 3 w60 w.heap.size (fun k_=>some k_≠(.slice Ao2 t16.length co3:Value).ownBlock) (.slice Ao0 t5.length co0) t5):=⟨(by rw [hw];exact (Rt_ (Kd.R_mono (Kd.R_far (p:=⟨gb5,6,none⟩) (Kd.R_far (p:=⟨gb5,5,none⟩) (Kd.R_far (p:=⟨gb5,4,none⟩) (Kd.R_far (p:=⟨gb5,3,none⟩) (Kd.R_far (p:=⟨gb5,2,none⟩) (Kd.R_far (p:=⟨gb5,1,none⟩) (Kd.R_far (p:=⟨gb5,0,none⟩) (Kd.R_types HO4.out BK4.out (by decide)) (fun _ hk=>hk.2) (.string a0)) (fun _ hk=>hk.2) (.slice A0 l0.length c0)) (fun _ hk=>hk.2) (.slice A2 l2.length c2)) (fun _ hk=>hk.2) (.slice A3 l3.length c9)) (fun _ hk=>hk.2) (.slice A4 l4.length c10)) (fun _ hk=>hk.2) (.slice A5 l5.length c11)) (fun _ hk=>hk.2) (.int .i64 a1)) (fun _ hk=>hk.1))))⟩;have n1:Aside0 (Kd.R (Kd.int .i64) 3 w60 w.heap.size (fun k_=>some k_≠(.slice Ao0 t5.length co0:Value).ownBlock) (.slice Ao2 t16.length co3) t16):=⟨(by rw [hw];exact (Rt_ (Kd.R_mono (Kd.R_far (p:=⟨gb5,6,none⟩) (Kd.R_far (p:=⟨gb5,5,none⟩) (Kd.R_far (p:=⟨gb5,4,none⟩) (Kd.R_far (p:=⟨gb5,3,none⟩) (Kd.R_far (p:=⟨gb5,2,none⟩) (Kd.R_far (p:=⟨gb5,1,none⟩) (Kd.R_far (p:=⟨gb5,0,none⟩) (Kd.R_types HO6.out BK4.out (by decide)) (fun _ hk=>hk.2) (.string a0)) (fun _ hk=>hk.2) (.slice A0 l0.length c0)) (fun _ hk=>hk.2) (.slice A2 l2.length c2)) (fun _ hk=>hk.2) (.slice A3 l3.length c9)) (fun _ hk=>hk.2) (.slice A4 l4.length c10)) (fun _ hk=>hk.2) (.slice A5 l5.length c11)) (fun _ hk=>hk.2) (.int .i64 a1)) (fun _ hk=>hk.1))))⟩;have n2:Aside0 (w60.heap[gb0]?=some (.cells #[.string a0,.slice A0 l0.length c0,.slice A2 l2.length c2,.slice A3 l3.length c9,.slice A4 l4.length c10,.slice A5 l5.length c11,.int .i64 a1] 28 (0,0))):=⟨(by rw [hw];exact (bx BK0))⟩;have n3:Aside0 (w60.heap[gb1]?=some (.cells #[.int .i64 t3,.int .i64 t4,.slice Ao0 t5.length co0] 39 (0,0))):=⟨(by rw [hw];exact (bx BK1))⟩;have n4:Aside0 (w60.heap[gb2]?=some (.cells #[.int .i64 t9,.int .i64 t10] 36 (0,0))):=⟨(by rw [hw];exact (bx BK2))⟩;have n5:Aside0 (w60.heap[gb4]?=some (.cells #[.int .i64 t14,.int .i64 t15,.slice Ao2 t16.length co3] 39 (0,0))):=⟨(by rw [hw];exact (bx BK3))⟩;have n6:Aside0 (w60.heap[gb5]?=some (.cells #[.string a0,.slice A0 l0.length c0,.slice A2 l2.length c2,.slice A3 l3.length c9,.slice A4 l4.length c10,.slice A5 l5.length c11,.int .i64 a1] 28 (0,0))):=⟨(by rw [hw];exact (br_ BK4))⟩;have n7:Aside0 (Below w.heap.size w w60):=⟨(by rw [hw];exact (bf HB))⟩;clear hw;clear HO4;clear HO6;clear BK0;clear BK1;clear BK2;clear BK3;clear BK4;clear HB;have HO4:=n0;have HO6:=n1;have BK0:=n2;have BK1:=n3;have BK2:=n4;have BK3:=n5;have BK4:=n6;have HB:=n7;clear n0 n1 n2 n3 n4 n5 n6 n7;have hcz39:=X.k7 BK0;have q11:((ji1):Int)≤((l4.length:Int):Int):=od_;obtain ⟨i0217,hi4,_,hsz4,_⟩:=info_parts info33;have hroom217:l4.length≤c10:=HC5.out;have hC4:Kd.C k33 _ A4 l4.length l4:=HR4.out;have hcut4:=cut_to (P:=Tryd.prog) 25 33 .i64 Tryd.underlying25 hi4 A4 l4.length c10 (ji1) (od_) q11 hroom217;have hr10:=Kd.C_take (m:=((ji1):Int).toNat) hC4 (by omega);have hy8:y3.length=((ji1):Int).toNat:=(by rw [Ny3.out,List.length_take];omega);rw [← Ny3.out] at hr10;rw [← hy8] at hcut4;have HR6:=am hr10;have HC9:=am (show y3.length≤c10 from by omega);clear hr10 hC4 hroom217 hi4 hsz4;have KY4:=am hy8;clear hy8;replace q11:=eq_true q11;have hcz40:=X.k7 BK4)|((with_reducible refine gc 7 rfl ?_);refine gl_ (some 102) rfl rfl Tryd.func7 ((crit_Sum.calls kj1 _ _ _ _ _ _ _ _ _ _ _ _ _ _ _ _ _ _ _ _ _ _ _ _ _ ?side1 ?side2 ?side3 ?side4 ?side5 ?side6 ?side7 ?side8 ?side9 ?side10 ?side11 ?side12 A85.out (tt GT)).mono ?_) ag;(case side1=>exact Kd.C_below HR0.out (bf HB));(case side2=>exact HC0.out);(case side3=>exact Kd.C_below HR2.out (bf HB));(case side4=>exact HC2.out);(case side5=>exact Kd.C_below HR3.out (bf HB));(case side6=>exact HC3.out);(case side7=>exact Kd.C_below HR6.out (bf HB));(case side8=>exact HC9.out);(case side9=>exact Kd.C_below HR5.out (bf HB));(case side10=>exact HC6.out);(case side11=>exact Kd.C_below HR1.out (bf HB));(case side12=>exact HC1.out);rintro e w62 ⟨v7,rfl,ho0,hb⟩;refine ⟨_,rfl,?_⟩;have HO7:=am (Kd.R_lower (Kd.R_new' (Kd.R_new' ho0 (Kd.R_lt (Rt_ (Kd.R_mono (Kd.R_far (p:=⟨gb5,4,none⟩) (Kd.R_types HO4.out BK4.out (by decide)) (fun _ hk=>hk.2) (.slice A4 y3.length c10)) (fun _ h_=>h_.1))))) (Kd.R_lt (Rt_ (Kd.R_mono (Kd.R_far (p:=⟨gb5,4,none⟩) (Kd.R_types HO6.out BK4.out (by decide)) (fun _ hk=>hk.2) (.slice A4 y3.length c10)) (fun _ h_=>h_.1))))) (below_size (bf HB)));replace HO4:=am (Kd.R_elder' (Rt_ (Kd.R_mono (Kd.R_far (p:=⟨gb5,4,none⟩) (Kd.R_types HO4.out BK4.out (by decide)) (fun _ hk=>hk.2) (.slice A4 y3.length c10)) (fun _ h_=>h_.1))) (Kd.R_base ho0) hb);replace HO6:=am (Kd.R_elder' (Rt_ (Kd.R_mono (Kd.R_far (p:=⟨gb5,4,none⟩) (Kd.R_types HO6.out BK4.out (by decide)) (fun _ hk=>hk.2) (.slice A4 y3.length c10)) (fun _ h_=>h_.1))) (Kd.R_base ho0) hb);replace BK0:=bb BK0 hb;replace BK1:=bb BK1 hb;replace BK2:=bb BK2 hb;replace BK3:=bb BK3 hb;replace BK4:=bp_ #[.string a0,.slice A0 l0.length c0,.slice A2 l2.length c2,.slice A3 l3.length c9,.slice A4 y3.length c10,.slice A5 l5.length c11,.int .i64 a1] BK4 hb;replace HB:=bs HB hb;(try clear hb);(try clear ho0))|((with_reducible refine gate_dst (N:=16) rfl ?_);(try (refine gate_guard (by rfl) ?_;dsimp only));refine box_event ?hg (N:=16) ?hd (cs:=#[.int .i64 0,.int .i64 0,.slice none 0 0]) (t:=39) ?hr ?_;(case hd=>rfl);(case hg=>rfl);(case hr=>first|(go_simp;done)|(go_simp;rfl));intro gb6 hg w63 hbox hb;have BK5:=am (hbox);have GW1:=bz HB hg;have GE5:=bz HB hg;have ⟨NB20,NB21⟩:=nb BK0 hg;have ⟨NB22,NB23⟩:=nb BK1 hg;have ⟨NB24,NB25⟩:=nb BK2 hg;have ⟨NB26,NB27⟩:=nb BK3 hg;have ⟨NB28,NB29⟩:=nb BK4 hg;replace HO4:=am (Kd.R_below (Rt_ HO4.out) hb);replace HO6:=am (Kd.R_below (Rt_ HO6.out) hb);replace HO7:=rb HO7 hb;replace HB:=bs HB hb;clear hb hg;have hnb85:=nn NB21;have hnb86:=nn NB23;have hnb87:=nn NB25;have hnb88:=nn NB27;have hnb89:=nn NB29;have hcz41:=X.k3 BK5;obtain ⟨Ao7,co8,eo8⟩:=Kd.R_slice HO7.out;subst eo8)|(go_at_call 6;(with_reducible refine (carrefourlaw11_awake.calls kj1 _ _ A23.out (tt GT)).mono ?_);rintro e w66 ⟨rfl,hb⟩;replace HO4:=am (Kd.R_below (Rt_ (Kd.R_mono (Kd.R_far (p:=⟨gb6,2,none⟩) (Kd.R_far (p:=⟨gb6,1,none⟩) (Kd.R_far (p:=⟨gb6,0,none⟩) (Kd.R_types HO4.out BK5.out (by decide)) (fun _ hk=>hk.2) (.int .i64 t24)) (fun _ hk=>hk.2) (.int .i64 t25)) (fun _ hk=>hk.2) (.slice Ao7 t26.length co8)) (fun _ h_=>h_.1))) hb);replace HO6:=am (Kd.R_below (Rt_ (Kd.R_mono (Kd.R_far (p:=⟨gb6,2,none⟩) (Kd.R_far (p:=⟨gb6,1,none⟩) (Kd.R_far (p:=⟨gb6,0,none⟩) (Kd.R_types HO6.out BK5.out (by decide)) (fun _ hk=>hk.2) (.int .i64 t24)) (fun _ hk=>hk.2) (.int .i64 t25)) (fun _ hk=>hk.2) (.slice Ao7 t26.length co8)) (fun _ h_=>h_.1))) hb);replace HO7:=am (Kd.R_below (Rt_ (Kd.R_mono (Kd.R_far (p:=⟨gb6,2,none⟩) (Kd.R_far (p:=⟨gb6,1,none⟩) (Kd.R_far (p:=⟨gb6,0,none⟩) (Kd.R_types HO7.out BK5.out (by decide)) (fun _ hk=>hk.2) (.int .i64 t24)) (fun _ hk=>hk.2) (.int .i64 t25)) (fun _ hk=>hk.2) (.slice Ao7 t26.length co8)) (fun _ h_=>h_.1))) hb);replace BK5:=bp_ #[.int .i64 t24,.int .i64 t25,.slice Ao7 t26.length co8] BK5 hb;replace HB:=bs HB hb;(try clear hb)))
 go_ret
 exact ⟨by first|rfl|(simp [errW_none,errW_some]<;>rfl)|(simp only [← hji0,← hji1];first|rfl|(simp [errW_none,errW_some]<;>rfl))|(simp [*,errW_none,errW_some]<;>rfl),bf HB⟩}};{
 rw [if_neg c84] at H
 exact absurd H (by simp)}};{
 rw [if_neg c83] at H
 exact absurd H (by simp)}}}}};{
 rw [if_neg c53] at H
 exact absurd H (by simp)}};{
 rw [if_neg c52] at H
 exact absurd H (by simp)}}}}};{
 rw [if_neg c23] at H
 exact absurd H (by simp)}};{
 rw [if_neg c22] at H
 exact absurd H (by simp)}}};{
 rw [if_neg c19] at H
 exact absurd H (by simp)}}}}
end Go.Proofs.YtenphnkiacfmiaaDoor.X
