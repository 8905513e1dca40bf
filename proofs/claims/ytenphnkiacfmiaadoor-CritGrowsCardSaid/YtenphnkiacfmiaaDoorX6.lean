/- Walks: each '.calls' says that the Go function comes to what its Lean function tells. Conditions: as each theorem's head says. -/
import Derived.Test.YtenphnkiacfmiaaDoorXD
import Derived.Test.YtenphnkiacfmiaaDoorX0
import Derived.Test.YtenphnkiacfmiaaDoorX4
import Derived.Test.YtenphnkiacfmiaaDoorX5
namespace Go.Proofs.YtenphnkiacfmiaaDoor.X
open Go.RowKit Go.Proofs.YtenphnkiacfmiaaDoorW.PrintWords Go.Proofs.YtenphnkiacfmiaaDoorW.PrintLast Go.Proofs.YtenphnkiacfmiaaDoorW.PrintMore
attribute [local go_sem] max2_int min2_int max_two min_two max_three min_three max_four min_four
set_option linter.unusedVariables false
set_option maxHeartbeats 8000000
set_option maxRecDepth 100000
set_option linter.unusedSimpArgs false
def carrefourlaw06_Few.T11:Bool × List (List Nat × List Nat):=(true,[([],[]),([0],[0]),([],[]),([1,2],[1,2]),([3],[3]),([4],[4]),([],[]),([6],[6]),([],[]),([7,8],[7,8]),([9],[9]),([10],[10]),([],[]),([12],[12]),([],[]),([13,14],[13,14]),([15],[15]),([16],[16]),([5,11,17],[5,11,17]),([18],[18]),([19],[19])])
def carrefourlaw06_Few.B11:List Nat:=[0,1,0,7,15,31,0,64,0,448,960,1984,0,4096,0,28672,61440,126976,262143,524287,1048575]
theorem carrefourlaw06_Few.tab11:rtab .any (opsOf Tryd.f16 11)=carrefourlaw06_Few.T11:=by kernel_rfl
theorem carrefourlaw06_Few.bits11:waitsOk carrefourlaw06_Few.T11.2 carrefourlaw06_Few.B11=true:=by kernel_rfl
theorem carrefourlaw06_Few.calls (k:Nat) (a0:Int) (a1:Int) (a2:Int) (a3:Int) (a4:Int) (A0:Option Addr) (c0:Nat) (l2:List (S28)) (A1:Option Addr) (c2:Nat) (l3:List (S87)) (a5:Int) (a6:Int) (r:Bool) (w:World) (hr0:Kd.C k28 w A0 l2.length l2) (hc0:l2.length≤c0) (hr1:Kd.C k87 w A1 l3.length l3) (hc1:l3.length≤c2) (h:carrefourlaw06_Few.f k a0 a1 a2 a3 a4 l2 l3 a5 a6=some r) :
  Calls Tryd.prog 16 #[.agg #[.int .i64 a0,.int .i64 a1,.int .i64 a2,.int .i64 a3,.int .i64 a4,.slice A0 l2.length c0,.slice A1 l3.length c2,.int .i64 a5,.int .i64 a6]] w fun e w'=>e=.returned (.bool r)∧Below w.heap.size w w':=by
 have hu0:=Tryd.underlying58
 have hu1:=Tryd.underlying28
 have HR0:=am hr0
 have HC0:=am hc0
 clear hr0 hc0
 have HR1:=am hr1
 have HC1:=am hc1
 clear hr1 hc1
 have HB:=am (Below.refl w.heap.size w)
 have H:(if (l2.length:Int)>15 then (carrefourlaw06_Few.j0 k true a0 a1 a2 a3 a4 l2 l3 a5 a6) else (carrefourlaw06_Few.j0 k (decide ((l3.length:Int)>15)) a0 a1 a2 a3 a4 l2 l3 a5 a6))=some r:=h
 clear h
 have HC2:=am H
 clear H
 go_enter Tryd.func16,Tryd.ntmps16
 go_upto_region 1 with (first|((with_reducible refine gate_dst (N:=1) rfl ?_);(try (refine gate_guard (by rfl) ?_;dsimp only));refine box_event ?hg (N:=1) ?hd (cs:=#[.int .i64 a0,.int .i64 a1,.int .i64 a2,.int .i64 a3,.int .i64 a4,.slice A0 l2.length c0,.slice A1 l3.length c2,.int .i64 a5,.int .i64 a6]) (t:=58) ?hr ?_;(case hd=>rfl);(case hg=>rfl);(case hr=>first|(go_simp;done)|(go_simp;rfl));intro gb0 hg w3 hbox hb;have BK0:=am (hbox);have GE0:=bz HB hg;replace HB:=bs HB hb;clear hb hg))
 (try simp only [Act.put,si,s0,s1])
 go_cut [14] (fun v0 wc=>∃ (kq:Nat) (x0:Bool),v0=.bool x0∧Aside0 (carrefourlaw06_Few.j0 kq x0 a0 a1 a2 a3 a4 l2 l3 a5 a6=some r)∧Aside0 (kq≤k)∧Aside0 (wc.heap[gb0]?=some (.cells #[.int .i64 a0,.int .i64 a1,.int .i64 a2,.int .i64 a3,.int .i64 a4,(.slice A0 l2.length c0),(.slice A1 l3.length c2),.int .i64 a5,.int .i64 a6] 58 (0,0)))∧Aside0 (Below w.heap.size w wc))
 case first =>skip;{
 have H:=HC2.out
 clear HC2
 by_cases c4:(l2.length:Int)>15;{
 rw [if_pos c4] at H
 have c5:decide (15<(l2.length:Int))=true:=decide_eq_true c4
 have c6:decide (15<l2.length)=true:=decide_eq_true (by omega)
 clear c4
 (first|rw [c5]|(simp only [i64_w,i32_w];rw [c5])|skip)
 have H':=am H
 clear H
 have hcz5:=X.k9 BK0
 go_wp2
 go_meet
 case rel=>exact ⟨_,(true),(aq),H',⟨by first|omega|exact Nat.le_refl _⟩,bu_ BK0,⟨bf HB⟩⟩};{
 rw [if_neg c4] at H
 have c5:decide (15<(l2.length:Int))=false:=decide_eq_false c4
 have c6:decide (15<l2.length)=false:=decide_eq_false (by omega)
 clear c4
 (first|rw [c5]|(simp only [i64_w,i32_w];rw [c5])|skip)
 have H':=am H
 clear H
 have hcz6:=X.k9 BK0
 go_wp2
 go_meet
 case rel=>exact ⟨_,(decide ((l3.length:Int)>15)),(aq),H',⟨by first|omega|exact Nat.le_refl _⟩,bu_ BK0,⟨bf HB⟩⟩}}
 case rest =>skip;{
 clear HC2
 (try clear c1);(try clear p2);(try clear c4);(try clear c5);(try clear c6);(try clear hcz5);(try clear hcz6)
 obtain ⟨kq,x0,rfl,HA,HJ1,BK0,HB⟩:=hcut
 cases kq with
 | zero=>exact absurd HA.out (by simp [carrefourlaw06_Few.j0])
 | succ kj1 =>skip;{
 have H:=HA.out
 clear HA
 simp only [carrefourlaw06_Few.j0] at H
 by_cases c7:x0=true;{
 subst c7
 have H1:(some false)=some r:=by rw [if_pos rfl] at H;exact H
 clear H
 have H:=H1
 clear H1
 obtain rfl:=Option.some.inj H
 go_wp2
 go_ret
 exact ⟨ae,bf HB⟩};{
 replace c7:=Bool.eq_false_iff.mpr c7
 subst c7
 have H1:(carrefourlaw06_Few.l0 kj1 0 a0 a1 a2 a3 a4 l2 l3 a5 a6)=some r:=by rw [if_neg (show ¬ (false=true) by decide)] at H;exact H
 clear H
 have H:=H1
 clear H1
 have H':=am H
 clear H
 go_wp2
 go_loopg [3] kj1 (fun kq v3 w'=>∃ (x1:Int),v3=.int .i64 x1∧Aside0 (carrefourlaw06_Few.l0 kq x1 a0 a1 a2 a3 a4 l2 l3 a5 a6=some r)∧Aside0 (kq≤kj1)∧Aside0 (w'.heap[gb0]?=some (.cells #[.int .i64 a0,.int .i64 a1,.int .i64 a2,.int .i64 a3,.int .i64 a4,(.slice A0 l2.length c0),(.slice A1 l3.length c2),.int .i64 a5,.int .i64 a6] 58 (0,0)))∧Aside0 (Below w.heap.size w w'))
 case atStart=>exact ⟨(0),(aq),H',⟨Nat.le_refl _⟩,bu_ BK0,⟨bf HB⟩⟩
 case round =>skip;{
 clear H'
 (try clear c1);(try clear p2);(try clear c4);(try clear c5);(try clear c6);(try clear c7);(try clear hcz5);(try clear hcz6);(try clear p2)
 obtain ⟨x1,rfl,HA,HK2,BK0,HB⟩:=hrel
 cases gk with
 | zero=>exact absurd HA.out (by simp [carrefourlaw06_Few.l0])
 | succ k2 =>skip;{
 have H:=HA.out
 clear HA
 simp only [carrefourlaw06_Few.l0] at H
 by_cases c8:x1<(l2.length:Int);{
 rw [if_pos c8] at H
 have c10:decide (x1<(l2.length:Int))=true:=decide_eq_true c8
 clear c8
 by_cases c9:0≤x1;{
 rw [if_pos c9] at H
 have c12:decide (0≤x1)=true:=decide_eq_true c9
 clear c9
 replace H:=bi_ H;obtain ⟨t0,A2,H⟩:=H
 (try dsimp only at H)
 by_cases c11:t0=true;{
 subst c11
 have H1:(carrefourlaw06_Few.l0 k2 (wrap64 (x1+1)) a0 a1 a2 a3 a4 l2 l3 a5 a6)=some r:=by rw [if_pos rfl] at H;exact H
 clear H
 have H:=H1
 clear H1
 have H':=am H
 clear H
 have hcz0:=X.k9 BK0
 have p0:0≤(x1:Int):=od_
 have q0:x1<(l2.length:Int):=od_
 obtain ⟨ad0,A3,c15,A4,c19,A5,c21,A6,c22,A7,c23,e0,hx0,hx2,hx3,hx4,hx5,hx6,hx7,hl0,hi0,hl1,hi1,hl2,hi2,hl3,hi3,hl4,hi4⟩:=at_T28 HR0.out x1 p0 q0
 cases e0
 replace hx0:=hx_ HB hx0
 replace hx2:=hx_ HB hx2
 replace hx3:=hx_ HB hx3
 replace hx4:=hx_ HB hx4
 replace hx5:=hx_ HB hx5
 replace hx6:=hx_ HB hx6
 replace hx7:=hx_ HB hx7
 have HR2:=am hi0
 have HC3:=am hl0
 clear hi0 hl0
 have HR3:=am hi1
 have HC4:=am hl1
 clear hi1 hl1
 have HR4:=am hi2
 have HC5:=am hl2
 clear hi2 hl2
 have HR5:=am hi3
 have HC6:=am hl3
 clear hi3 hl3
 have HR6:=am hi4
 have HC7:=am hl4
 clear hi4 hl4
 replace p0:=eq_true p0
 replace q0:=eq_true q0
 go_wp2_with (first|((with_reducible refine gc 36 rfl ?_);refine gm_ (some 27) rfl rfl Tryd.func36 (carrefourlaw06_node.calls _ ((rd_T28 l2 x1).f0) _ _ ((rd_T28 l2 x1).f1) _ _ ((rd_T28 l2 x1).f2) _ _ ((rd_T28 l2 x1).f3) _ _ ((rd_T28 l2 x1).f4) _ _ ((rd_T28 l2 x1).f5) ((rd_T28 l2 x1).f6) _ _ ?side1 ?side2 ?side3 ?side4 ?side5 ?side6 ?side7 ?side8 ?side9 ?side10 A2.out) ag ?_;(case side1=>repeat (first|exact (Kd.C_below HR2.out HB.out)|(with_reducible refine Kd.C_alloc ?_ _)|(with_reducible refine Kd.C_drewN ?_ _)|(with_reducible refine Kd.C_drew ?_)));(case side2=>exact HC3.out);(case side3=>repeat (first|exact (Kd.C_below HR3.out HB.out)|(with_reducible refine Kd.C_alloc ?_ _)|(with_reducible refine Kd.C_drewN ?_ _)|(with_reducible refine Kd.C_drew ?_)));(case side4=>exact HC4.out);(case side5=>repeat (first|exact (Kd.C_below HR4.out HB.out)|(with_reducible refine Kd.C_alloc ?_ _)|(with_reducible refine Kd.C_drewN ?_ _)|(with_reducible refine Kd.C_drew ?_)));(case side6=>exact HC5.out);(case side7=>repeat (first|exact (Kd.C_below HR5.out HB.out)|(with_reducible refine Kd.C_alloc ?_ _)|(with_reducible refine Kd.C_drewN ?_ _)|(with_reducible refine Kd.C_drew ?_)));(case side8=>exact HC6.out);(case side9=>repeat (first|exact (Kd.C_below HR6.out HB.out)|(with_reducible refine Kd.C_alloc ?_ _)|(with_reducible refine Kd.C_drewN ?_ _)|(with_reducible refine Kd.C_drew ?_)));(case side10=>exact HC7.out);intro w0 hb;replace BK0:=bb BK0 hb;replace HB:=bs HB hb;(try clear hb)))
 go_roundg k2
 case measure=>have:=HJ1.out;have:=HK2.out;omega
 case rel=>exact ⟨(wrap64 (x1+1)),(aq),H',⟨by have:=HJ1.out;have:=HK2.out;omega⟩,bu_ BK0,⟨bf HB⟩⟩};{
 replace c11:=Bool.eq_false_iff.mpr c11
 subst c11
 have H1:(some false)=some r:=by rw [if_neg (show ¬ (false=true) by decide)] at H;exact H
 clear H
 have H:=H1
 clear H1
 obtain rfl:=Option.some.inj H
 have hcz1:=X.k9 BK0
 have p0:0≤(x1:Int):=od_
 have q0:x1<(l2.length:Int):=od_
 obtain ⟨ad0,A3,c15,A4,c19,A5,c21,A6,c22,A7,c23,e0,hx0,hx2,hx3,hx4,hx5,hx6,hx7,hl0,hi0,hl1,hi1,hl2,hi2,hl3,hi3,hl4,hi4⟩:=at_T28 HR0.out x1 p0 q0
 cases e0
 replace hx0:=hx_ HB hx0
 replace hx2:=hx_ HB hx2
 replace hx3:=hx_ HB hx3
 replace hx4:=hx_ HB hx4
 replace hx5:=hx_ HB hx5
 replace hx6:=hx_ HB hx6
 replace hx7:=hx_ HB hx7
 have HR2:=am hi0
 have HC3:=am hl0
 clear hi0 hl0
 have HR3:=am hi1
 have HC4:=am hl1
 clear hi1 hl1
 have HR4:=am hi2
 have HC5:=am hl2
 clear hi2 hl2
 have HR5:=am hi3
 have HC6:=am hl3
 clear hi3 hl3
 have HR6:=am hi4
 have HC7:=am hl4
 clear hi4 hl4
 replace p0:=eq_true p0
 replace q0:=eq_true q0
 go_wp2_with (first|((with_reducible refine gc 36 rfl ?_);refine gm_ (some 27) rfl rfl Tryd.func36 (carrefourlaw06_node.calls _ ((rd_T28 l2 x1).f0) _ _ ((rd_T28 l2 x1).f1) _ _ ((rd_T28 l2 x1).f2) _ _ ((rd_T28 l2 x1).f3) _ _ ((rd_T28 l2 x1).f4) _ _ ((rd_T28 l2 x1).f5) ((rd_T28 l2 x1).f6) _ _ ?side1 ?side2 ?side3 ?side4 ?side5 ?side6 ?side7 ?side8 ?side9 ?side10 A2.out) ag ?_;(case side1=>repeat (first|exact (Kd.C_below HR2.out HB.out)|(with_reducible refine Kd.C_alloc ?_ _)|(with_reducible refine Kd.C_drewN ?_ _)|(with_reducible refine Kd.C_drew ?_)));(case side2=>exact HC3.out);(case side3=>repeat (first|exact (Kd.C_below HR3.out HB.out)|(with_reducible refine Kd.C_alloc ?_ _)|(with_reducible refine Kd.C_drewN ?_ _)|(with_reducible refine Kd.C_drew ?_)));(case side4=>exact HC4.out);(case side5=>repeat (first|exact (Kd.C_below HR4.out HB.out)|(with_reducible refine Kd.C_alloc ?_ _)|(with_reducible refine Kd.C_drewN ?_ _)|(with_reducible refine Kd.C_drew ?_)));(case side6=>exact HC5.out);(case side7=>repeat (first|exact (Kd.C_below HR5.out HB.out)|(with_reducible refine Kd.C_alloc ?_ _)|(with_reducible refine Kd.C_drewN ?_ _)|(with_reducible refine Kd.C_drew ?_)));(case side8=>exact HC6.out);(case side9=>repeat (first|exact (Kd.C_below HR6.out HB.out)|(with_reducible refine Kd.C_alloc ?_ _)|(with_reducible refine Kd.C_drewN ?_ _)|(with_reducible refine Kd.C_drew ?_)));(case side10=>exact HC7.out);intro w1 hb;replace BK0:=bb BK0 hb;replace HB:=bs HB hb;(try clear hb)))
 go_ret
 exact ⟨ae,bf HB⟩}};{
 rw [if_neg c9] at H
 exact absurd H (by simp)}};{
 rw [if_neg c8] at H
 have c10:decide (x1<(l2.length:Int))=false:=decide_eq_false c8
 clear c8
 have H':=am H
 clear H
 have hcz2:=X.k9 BK0
 go_wp2
 go_loopg [4] k2 (fun kq v4 w'=>∃ (x2:Int),v4=.int .i64 x2∧Aside0 (carrefourlaw06_Few.l1 kq x2 a0 a1 a2 a3 a4 l2 l3 a5 a6=some r)∧Aside0 (kq≤k2)∧Aside0 (w'.heap[gb0]?=some (.cells #[.int .i64 a0,.int .i64 a1,.int .i64 a2,.int .i64 a3,.int .i64 a4,(.slice A0 l2.length c0),(.slice A1 l3.length c2),.int .i64 a5,.int .i64 a6] 58 (0,0)))∧Aside0 (Below w.heap.size w w'))
 case atStart=>exact ⟨(0),(aq),H',⟨Nat.le_refl _⟩,bu_ BK0,⟨bf HB⟩⟩
 case round =>skip;{
 clear H'
 (try clear c1);(try clear p1);(try clear q1);(try clear hx1);(try clear p2);(try clear c3);(try clear c4);(try clear c5);(try clear c6);(try clear p6);(try clear c7);(try clear c8);(try clear c10);(try clear c9);(try clear c12);(try clear c11);(try clear c14);(try clear p3);(try clear q2);(try clear hx8);(try clear c16);(try clear hcz0);(try clear hcz1);(try clear hcz2);(try clear hcz5);(try clear hcz6);(try clear hx0);(try clear hx2);(try clear hx3);(try clear hx4);(try clear hx5);(try clear hx6);(try clear hx7);(try clear p0);(try clear p2);(try clear q0)
 obtain ⟨x2,rfl,HA,HK3,BK0,HB⟩:=hrel
 cases gk with
 | zero=>exact absurd HA.out (by simp [carrefourlaw06_Few.l1])
 | succ k3 =>skip;{
 have H:=HA.out
 clear HA
 simp only [carrefourlaw06_Few.l1] at H
 by_cases c17:x2<(l3.length:Int);{
 rw [if_pos c17] at H
 have c27:decide (x2<(l3.length:Int))=true:=decide_eq_true c17
 clear c17
 by_cases c18:0≤x2;{
 rw [if_pos c18] at H
 have c29:decide (0≤x2)=true:=decide_eq_true c18
 clear c18
 obtain ⟨y0,hy0⟩:∃ y_:List ByteArray,y_=(([(rd_T87 l3 x2).f0,(rd_T87 l3 x2).f1,(rd_T87 l3 x2).f2]:List ByteArray)):=⟨_,rfl⟩
 replace H:((carrefourlaw06_strings.f k3 y0).bind fun t1=>(if t1=true then (carrefourlaw06_Few.l1 k3 (wrap64 (x2+1)) a0 a1 a2 a3 a4 l2 l3 a5 a6) else (some false)))=some r:=by first|(rw [hy0];with_reducible exact H)|(have H0:=(Option.bind_some _ _).symm.trans H;rw [hy0];with_reducible exact H0)|(have H0:=(Option.bind_some _ _).symm.trans H;with_reducible exact H0)|with_reducible exact H|(rw [hy0];exact H)|exact H
 have Ny0:=am hy0
 clear hy0
 replace H:=bi_ H;obtain ⟨t1,A8,H⟩:=H
 (try dsimp only at H)
 by_cases c20:t1=true;{
 subst c20
 have H1:(carrefourlaw06_Few.l1 k3 (wrap64 (x2+1)) a0 a1 a2 a3 a4 l2 l3 a5 a6)=some r:=by rw [if_pos rfl] at H;exact H
 clear H
 have H:=H1
 clear H1
 have H':=am H
 clear H
 have hcz3:=X.k9 BK0
 try go_wp2
 replace BK0:=am (blk_drew BK0.out)
 replace HB:=am (below_drew1 HB.out)
 have p4:0≤(x2:Int):=od_
 have q3:x2<(l3.length:Int):=od_
 obtain ⟨ad1,e1,hx9,hx10,hx11,hx12,hx13,hx15⟩:=at_T87 HR1.out x2 p4 q3
 have hw0:=hx15
 have hw1:=hx13
 have hw2:=hx12
 have hw3:=hx11
 have hw4:=hx10
 have hw5:=hx9
 cases e1
 replace hx9:=hx_ HB hx9
 replace hx10:=hx_ HB hx10
 replace hx11:=hx_ HB hx11
 replace hx12:=hx_ HB hx12
 replace hx13:=hx_ HB hx13
 replace hx15:=hx_ HB hx15
 replace p4:=eq_true p4
 replace q3:=eq_true q3
 have p5:0≤(x2:Int):=od_
 have q4:x2<(l3.length:Int):=od_
 obtain ⟨ad2,e2,hx16,hx17,hx18,hx19,hx20,hx21⟩:=at_T87 HR1.out x2 p5 q4
 have hw6:=hx21
 have hw7:=hx20
 have hw8:=hx19
 have hw9:=hx18
 have hw10:=hx17
 have hw11:=hx16
 obtain rfl:ad1=ad2:=(by injection e2)
 replace hx16:=hx_ HB hx16
 replace hx17:=hx_ HB hx17
 replace hx18:=hx_ HB hx18
 replace hx19:=hx_ HB hx19
 replace hx20:=hx_ HB hx20
 replace hx21:=hx_ HB hx21
 replace p5:=eq_true p5
 replace q4:=eq_true q4
 have p7:0≤(x2:Int):=od_
 have q5:x2<(l3.length:Int):=od_
 obtain ⟨ad3,e3,hx22,hx23,hx24,hx25,hx26,hx27⟩:=at_T87 HR1.out x2 p7 q5
 have hw12:=hx27
 have hw13:=hx26
 have hw14:=hx25
 have hw15:=hx24
 have hw16:=hx23
 have hw17:=hx22
 obtain rfl:ad1=ad3:=(by injection e3)
 replace hx22:=hx_ HB hx22
 replace hx23:=hx_ HB hx23
 replace hx24:=hx_ HB hx24
 replace hx25:=hx_ HB hx25
 replace hx26:=hx_ HB hx26
 replace hx27:=hx_ HB hx27
 replace p7:=eq_true p7
 replace q5:=eq_true q5
 refine start_ (n:=21) (S:=fun w'=>c_ w' gb0 0 (.int .i64 a0)∧c_ w' gb0 1 (.int .i64 a1)∧c_ w' gb0 2 (.int .i64 a2)∧c_ w' gb0 3 (.int .i64 a3)∧c_ w' gb0 4 (.int .i64 a4)∧c_ w' gb0 5 (.slice A0 l2.length c0)∧c_ w' gb0 6 (.slice (some ad1) l3.length c2)∧c_ w' gb0 7 (.int .i64 a5)∧c_ w' gb0 8 (.int .i64 a6)∧w'.cell? (ad1.add ((x2).toNat*6))=some (.string ((rd_T87 l3 x2).f0))∧w'.cell? ⟨(ad1.add ((x2).toNat*6)).block,(ad1.add ((x2).toNat*6)).off+1,none⟩=some (.string ((rd_T87 l3 x2).f1))∧w'.cell? ⟨(ad1.add ((x2).toNat*6)).block,(ad1.add ((x2).toNat*6)).off+2,none⟩=some (.string ((rd_T87 l3 x2).f2))∧w'.cell? ⟨(ad1.add ((x2).toNat*6)).block,(ad1.add ((x2).toNat*6)).off+3,none⟩=some (.int .i64 ((rd_T87 l3 x2).f3))∧w'.cell? ⟨(ad1.add ((x2).toNat*6)).block,(ad1.add ((x2).toNat*6)).off+4,none⟩=some (.int .i64 ((rd_T87 l3 x2).f4))∧w'.cell? ⟨(ad1.add ((x2).toNat*6)).block,(ad1.add ((x2).toNat*6)).off+5,none⟩=some (.int .i64 ((rd_T87 l3 x2).f5))∧w'.cell? (ad1.add ((x2).toNat*6))=some (.string ((rd_T87 l3 x2).f0))∧w'.cell? ⟨(ad1.add ((x2).toNat*6)).block,(ad1.add ((x2).toNat*6)).off+1,none⟩=some (.string ((rd_T87 l3 x2).f1))∧w'.cell? ⟨(ad1.add ((x2).toNat*6)).block,(ad1.add ((x2).toNat*6)).off+2,none⟩=some (.string ((rd_T87 l3 x2).f2))∧w'.cell? ⟨(ad1.add ((x2).toNat*6)).block,(ad1.add ((x2).toNat*6)).off+3,none⟩=some (.int .i64 ((rd_T87 l3 x2).f3))∧w'.cell? ⟨(ad1.add ((x2).toNat*6)).block,(ad1.add ((x2).toNat*6)).off+4,none⟩=some (.int .i64 ((rd_T87 l3 x2).f4))∧w'.cell? ⟨(ad1.add ((x2).toNat*6)).block,(ad1.add ((x2).toNat*6)).off+5,none⟩=some (.int .i64 ((rd_T87 l3 x2).f5))∧w'.cell? (ad1.add ((x2).toNat*6))=some (.string ((rd_T87 l3 x2).f0))∧w'.cell? ⟨(ad1.add ((x2).toNat*6)).block,(ad1.add ((x2).toNat*6)).off+1,none⟩=some (.string ((rd_T87 l3 x2).f1))∧w'.cell? ⟨(ad1.add ((x2).toNat*6)).block,(ad1.add ((x2).toNat*6)).off+2,none⟩=some (.string ((rd_T87 l3 x2).f2))∧w'.cell? ⟨(ad1.add ((x2).toNat*6)).block,(ad1.add ((x2).toNat*6)).off+3,none⟩=some (.int .i64 ((rd_T87 l3 x2).f3))∧w'.cell? ⟨(ad1.add ((x2).toNat*6)).block,(ad1.add ((x2).toNat*6)).off+4,none⟩=some (.int .i64 ((rd_T87 l3 x2).f4))∧w'.cell? ⟨(ad1.add ((x2).toNat*6)).block,(ad1.add ((x2).toNat*6)).off+5,none⟩=some (.int .i64 ((rd_T87 l3 x2).f5))) (ds:=[]) (m_ 21 0) (by kernel_rfl) rfl rfl ⟨ct BK0 0,ct BK0 1,ct BK0 2,ct BK0 3,ct BK0 4,ct BK0 5,ct BK0 6,ct BK0 7,ct BK0 8,(hx_ HB hw5 :),(hx_ HB hw4 :),(hx_ HB hw3 :),(hx_ HB hw2 :),(hx_ HB hw1 :),(hx_ HB hw0 :),(hx_ HB hw11 :),(hx_ HB hw10 :),(hx_ HB hw9 :),(hx_ HB hw8 :),(hx_ HB hw7 :),(hx_ HB hw6 :),(hx_ HB hw17 :),(hx_ HB hw16 :),(hx_ HB hw15 :),(hx_ HB hw14 :),(hx_ HB hw13 :),(hx_ HB hw12 :)⟩ (fun hHeld=>?_);refine with_tabW carrefourlaw06_Few.tab11 carrefourlaw06_Few.bits11 (fun HT_ HW_=>?_)
 generalize wr.drew=w2 at BK0 HB hx9 hx10 hx11 hx12 hx13 hx15 hx16 hx17 hx18 hx19 hx20 hx21 hx22 hx23 hx24 hx25 hx26 hx27 hHeld ⊢
 refine pu_ 0 (some 36) (m_ 21 1) rfl rfl (ao HT_) ?_
 refine pu_ 2 (some 38) (m_ 21 5) rfl rfl (ao HT_) ?_
 refine pu_ 6 (some 42) (m_ 21 69) rfl rfl (ao HT_) ?_
 refine pu_ 8 (some 44) (m_ 21 325) rfl rfl (ao HT_) ?_
 refine pu_ 12 (some 48) (m_ 21 4421) rfl rfl (ao HT_) ?_
 refine pu_ 14 (some 50) (m_ 21 20805) rfl rfl (ao HT_) ?_
 refine tk_ 1 (some 37) (m_ 21 20807) rfl rfl (tw HT_ HW_) hHeld ?_
 refine pu_ 3 (some 39) (m_ 21 20815) rfl rfl (ao HT_) ?_
 refine pu_ 4 (some 40) (m_ 21 20831) rfl rfl (ao HT_) ?_
 refine tk_ 5 (some 41) (m_ 21 20863) rfl rfl (tw HT_ HW_) hHeld ?_
 refine tk_ 7 (some 43) (m_ 21 20991) rfl rfl (tw HT_ HW_) hHeld ?_
 refine pu_ 9 (some 45) (m_ 21 21503) rfl rfl (ao HT_) ?_
 refine pu_ 10 (some 46) (m_ 21 22527) rfl rfl (ao HT_) ?_
 refine tk_ 11 (some 47) (m_ 21 24575) rfl rfl (tw HT_ HW_) hHeld ?_
 refine tk_ 13 (some 49) (m_ 21 32767) rfl rfl (tw HT_ HW_) hHeld ?_
 refine pu_ 15 (some 51) (m_ 21 65535) rfl rfl (ao HT_) ?_
 refine pu_ 16 (some 52) (m_ 21 131071) rfl rfl (ao HT_) ?_
 refine tk_ 17 (some 53) (m_ 21 262143) rfl rfl (tw HT_ HW_) hHeld ?_
 refine o1_ 18 (some 54) (m_ 21 524287) rfl rfl (oo HT_) (fun K hK=>?_)
 refine Kd.R_lit_step Kd.string _ 9 ?hg (N:=54) ?hd (xs:=([(rd_T87 l3 x2).f0,(rd_T87 l3 x2).f1,(rd_T87 l3 x2).f2]:List ByteArray)) (inner:=[.string ((rd_T87 l3 x2).f0),.string ((rd_T87 l3 x2).f1),.string ((rd_T87 l3 x2).f2)]) (ok:=fun _=>True) (okp:=fun _=>True) ?hr ?hp (fun _ hk=>hk) trivial (Below.refl _ _) (Nat.le_refl _) (by simp) ?_;(case hd=>rfl);(case hg=>rfl);(case hr=>first|(go_simp;done)|(go_simp;rfl));(case hp=>exact (Reps.one (show Kd.M Kd.string _ _ _ ((rd_T87 l3 x2).f0) [.string ((rd_T87 l3 x2).f0)] from rfl) (Reps.one (show Kd.M Kd.string _ _ _ ((rd_T87 l3 x2).f1) [.string ((rd_T87 l3 x2).f1)] from rfl) (Reps.one (show Kd.M Kd.string _ _ _ ((rd_T87 l3 x2).f2) [.string ((rd_T87 l3 x2).f2)] from rfl) (Reps.none _ _)))))
 intro v1 w4 ho0 hb hg_ hnew_
 clear hg_ hnew_
 (first|rw [← Ny0.out] at ho0|(simp only [Int.reduceToNat] at ho0;rw [← Ny0.out] at ho0))
 have HO0:=am (Kd.R_lower ho0 (below_size (bf HB)))
 replace BK0:=bb BK0 hb
 replace HB:=bs HB hb
 clear hb ho0
 obtain ⟨Ao0,co0,eo0⟩:=Kd.R_slice HO0.out
 (first|subst eo0|(injection eo0 with f1_ f2_ f3_;have f4_:=f1_.symm;have f5_:=f3_.symm;clear f1_ f2_ f3_;subst f4_;subst f5_))
 refine hK.out _ _ ⟨ct BK0 0,ct BK0 1,ct BK0 2,ct BK0 3,ct BK0 4,ct BK0 5,ct BK0 6,ct BK0 7,ct BK0 8,(hx_ HB hw5 :),(hx_ HB hw4 :),(hx_ HB hw3 :),(hx_ HB hw2 :),(hx_ HB hw1 :),(hx_ HB hw0 :),(hx_ HB hw11 :),(hx_ HB hw10 :),(hx_ HB hw9 :),(hx_ HB hw8 :),(hx_ HB hw7 :),(hx_ HB hw6 :),(hx_ HB hw17 :),(hx_ HB hw16 :),(hx_ HB hw15 :),(hx_ HB hw14 :),(hx_ HB hw13 :),(hx_ HB hw12 :)⟩ (fun hHeld=>?_)
 clear hK K
 refine nr_ (some 54) ?_
 refine o1_ 19 (some 55) (m_ 21 1048575) rfl rfl (oo HT_) (fun K hK=>?_)
 refine gs_ rfl Tryd.func37 (carrefourlaw06_strings.calls _ _ _ _ _ _ ?side1 ?side2 A8.out) ag ?_
 (case side1=>exact rc HO0)
 (case side2=>exact (Kd.R_reads' HO0.out).2.1)
 rintro w' ⟨nd,rfl⟩
 refine hK.out _ _ ⟨ct BK0 0,ct BK0 1,ct BK0 2,ct BK0 3,ct BK0 4,ct BK0 5,ct BK0 6,ct BK0 7,ct BK0 8,(hx_ HB hw5 :),(hx_ HB hw4 :),(hx_ HB hw3 :),(hx_ HB hw2 :),(hx_ HB hw1 :),(hx_ HB hw0 :),(hx_ HB hw11 :),(hx_ HB hw10 :),(hx_ HB hw9 :),(hx_ HB hw8 :),(hx_ HB hw7 :),(hx_ HB hw6 :),(hx_ HB hw17 :),(hx_ HB hw16 :),(hx_ HB hw15 :),(hx_ HB hw14 :),(hx_ HB hw13 :),(hx_ HB hw12 :)⟩ (fun hHeld=>?_)
 clear hK K
 refine nr_ (some 55) ?_
 refine pu_ 20 (some 56) (m_ 21 2097151) rfl rfl (ao HT_) ?_
 refine done_ (done_of HT_.out (by kernel_rfl)) ?_
 try go_wp2
 go_roundg k3
 case measure=>have:=HJ1.out;have:=HK2.out;have:=HK3.out;omega
 case rel=>exact ⟨(wrap64 (x2+1)),(aq),H',⟨by have:=HJ1.out;have:=HK2.out;have:=HK3.out;omega⟩,bu_ BK0,⟨bf HB⟩⟩};{
 replace c20:=Bool.eq_false_iff.mpr c20
 subst c20
 have H1:(some false)=some r:=by rw [if_neg (show ¬ (false=true) by decide)] at H;exact H
 clear H
 have H:=H1
 clear H1
 obtain rfl:=Option.some.inj H
 have hcz4:=X.k9 BK0
 try go_wp2
 replace BK0:=am (blk_drew BK0.out)
 replace HB:=am (below_drew1 HB.out)
 have p4:0≤(x2:Int):=od_
 have q3:x2<(l3.length:Int):=od_
 obtain ⟨ad1,e1,hx9,hx10,hx11,hx12,hx13,hx15⟩:=at_T87 HR1.out x2 p4 q3
 have hw0:=hx15
 have hw1:=hx13
 have hw2:=hx12
 have hw3:=hx11
 have hw4:=hx10
 have hw5:=hx9
 cases e1
 replace hx9:=hx_ HB hx9
 replace hx10:=hx_ HB hx10
 replace hx11:=hx_ HB hx11
 replace hx12:=hx_ HB hx12
 replace hx13:=hx_ HB hx13
 replace hx15:=hx_ HB hx15
 replace p4:=eq_true p4
 replace q3:=eq_true q3
 have p5:0≤(x2:Int):=od_
 have q4:x2<(l3.length:Int):=od_
 obtain ⟨ad2,e2,hx16,hx17,hx18,hx19,hx20,hx21⟩:=at_T87 HR1.out x2 p5 q4
 have hw6:=hx21
 have hw7:=hx20
 have hw8:=hx19
 have hw9:=hx18
 have hw10:=hx17
 have hw11:=hx16
 obtain rfl:ad1=ad2:=(by injection e2)
 replace hx16:=hx_ HB hx16
 replace hx17:=hx_ HB hx17
 replace hx18:=hx_ HB hx18
 replace hx19:=hx_ HB hx19
 replace hx20:=hx_ HB hx20
 replace hx21:=hx_ HB hx21
 replace p5:=eq_true p5
 replace q4:=eq_true q4
 have p7:0≤(x2:Int):=od_
 have q5:x2<(l3.length:Int):=od_
 obtain ⟨ad3,e3,hx22,hx23,hx24,hx25,hx26,hx27⟩:=at_T87 HR1.out x2 p7 q5
 have hw12:=hx27
 have hw13:=hx26
 have hw14:=hx25
 have hw15:=hx24
 have hw16:=hx23
 have hw17:=hx22
 obtain rfl:ad1=ad3:=(by injection e3)
 replace hx22:=hx_ HB hx22
 replace hx23:=hx_ HB hx23
 replace hx24:=hx_ HB hx24
 replace hx25:=hx_ HB hx25
 replace hx26:=hx_ HB hx26
 replace hx27:=hx_ HB hx27
 replace p7:=eq_true p7
 replace q5:=eq_true q5
 refine start_ (n:=21) (S:=fun w'=>c_ w' gb0 0 (.int .i64 a0)∧c_ w' gb0 1 (.int .i64 a1)∧c_ w' gb0 2 (.int .i64 a2)∧c_ w' gb0 3 (.int .i64 a3)∧c_ w' gb0 4 (.int .i64 a4)∧c_ w' gb0 5 (.slice A0 l2.length c0)∧c_ w' gb0 6 (.slice (some ad1) l3.length c2)∧c_ w' gb0 7 (.int .i64 a5)∧c_ w' gb0 8 (.int .i64 a6)∧w'.cell? (ad1.add ((x2).toNat*6))=some (.string ((rd_T87 l3 x2).f0))∧w'.cell? ⟨(ad1.add ((x2).toNat*6)).block,(ad1.add ((x2).toNat*6)).off+1,none⟩=some (.string ((rd_T87 l3 x2).f1))∧w'.cell? ⟨(ad1.add ((x2).toNat*6)).block,(ad1.add ((x2).toNat*6)).off+2,none⟩=some (.string ((rd_T87 l3 x2).f2))∧w'.cell? ⟨(ad1.add ((x2).toNat*6)).block,(ad1.add ((x2).toNat*6)).off+3,none⟩=some (.int .i64 ((rd_T87 l3 x2).f3))∧w'.cell? ⟨(ad1.add ((x2).toNat*6)).block,(ad1.add ((x2).toNat*6)).off+4,none⟩=some (.int .i64 ((rd_T87 l3 x2).f4))∧w'.cell? ⟨(ad1.add ((x2).toNat*6)).block,(ad1.add ((x2).toNat*6)).off+5,none⟩=some (.int .i64 ((rd_T87 l3 x2).f5))∧w'.cell? (ad1.add ((x2).toNat*6))=some (.string ((rd_T87 l3 x2).f0))∧w'.cell? ⟨(ad1.add ((x2).toNat*6)).block,(ad1.add ((x2).toNat*6)).off+1,none⟩=some (.string ((rd_T87 l3 x2).f1))∧w'.cell? ⟨(ad1.add ((x2).toNat*6)).block,(ad1.add ((x2).toNat*6)).off+2,none⟩=some (.string ((rd_T87 l3 x2).f2))∧w'.cell? ⟨(ad1.add ((x2).toNat*6)).block,(ad1.add ((x2).toNat*6)).off+3,none⟩=some (.int .i64 ((rd_T87 l3 x2).f3))∧w'.cell? ⟨(ad1.add ((x2).toNat*6)).block,(ad1.add ((x2).toNat*6)).off+4,none⟩=some (.int .i64 ((rd_T87 l3 x2).f4))∧w'.cell? ⟨(ad1.add ((x2).toNat*6)).block,(ad1.add ((x2).toNat*6)).off+5,none⟩=some (.int .i64 ((rd_T87 l3 x2).f5))∧w'.cell? (ad1.add ((x2).toNat*6))=some (.string ((rd_T87 l3 x2).f0))∧w'.cell? ⟨(ad1.add ((x2).toNat*6)).block,(ad1.add ((x2).toNat*6)).off+1,none⟩=some (.string ((rd_T87 l3 x2).f1))∧w'.cell? ⟨(ad1.add ((x2).toNat*6)).block,(ad1.add ((x2).toNat*6)).off+2,none⟩=some (.string ((rd_T87 l3 x2).f2))∧w'.cell? ⟨(ad1.add ((x2).toNat*6)).block,(ad1.add ((x2).toNat*6)).off+3,none⟩=some (.int .i64 ((rd_T87 l3 x2).f3))∧w'.cell? ⟨(ad1.add ((x2).toNat*6)).block,(ad1.add ((x2).toNat*6)).off+4,none⟩=some (.int .i64 ((rd_T87 l3 x2).f4))∧w'.cell? ⟨(ad1.add ((x2).toNat*6)).block,(ad1.add ((x2).toNat*6)).off+5,none⟩=some (.int .i64 ((rd_T87 l3 x2).f5))) (ds:=[]) (m_ 21 0) (by kernel_rfl) rfl rfl ⟨ct BK0 0,ct BK0 1,ct BK0 2,ct BK0 3,ct BK0 4,ct BK0 5,ct BK0 6,ct BK0 7,ct BK0 8,(hx_ HB hw5 :),(hx_ HB hw4 :),(hx_ HB hw3 :),(hx_ HB hw2 :),(hx_ HB hw1 :),(hx_ HB hw0 :),(hx_ HB hw11 :),(hx_ HB hw10 :),(hx_ HB hw9 :),(hx_ HB hw8 :),(hx_ HB hw7 :),(hx_ HB hw6 :),(hx_ HB hw17 :),(hx_ HB hw16 :),(hx_ HB hw15 :),(hx_ HB hw14 :),(hx_ HB hw13 :),(hx_ HB hw12 :)⟩ (fun hHeld=>?_);refine with_tabW carrefourlaw06_Few.tab11 carrefourlaw06_Few.bits11 (fun HT_ HW_=>?_)
 generalize wr.drew=w5 at BK0 HB hx9 hx10 hx11 hx12 hx13 hx15 hx16 hx17 hx18 hx19 hx20 hx21 hx22 hx23 hx24 hx25 hx26 hx27 hHeld ⊢
 refine pu_ 0 (some 36) (m_ 21 1) rfl rfl (ao HT_) ?_
 refine pu_ 2 (some 38) (m_ 21 5) rfl rfl (ao HT_) ?_
 refine pu_ 6 (some 42) (m_ 21 69) rfl rfl (ao HT_) ?_
 refine pu_ 8 (some 44) (m_ 21 325) rfl rfl (ao HT_) ?_
 refine pu_ 12 (some 48) (m_ 21 4421) rfl rfl (ao HT_) ?_
 refine pu_ 14 (some 50) (m_ 21 20805) rfl rfl (ao HT_) ?_
 refine tk_ 1 (some 37) (m_ 21 20807) rfl rfl (tw HT_ HW_) hHeld ?_
 refine pu_ 3 (some 39) (m_ 21 20815) rfl rfl (ao HT_) ?_
 refine pu_ 4 (some 40) (m_ 21 20831) rfl rfl (ao HT_) ?_
 refine tk_ 5 (some 41) (m_ 21 20863) rfl rfl (tw HT_ HW_) hHeld ?_
 refine tk_ 7 (some 43) (m_ 21 20991) rfl rfl (tw HT_ HW_) hHeld ?_
 refine pu_ 9 (some 45) (m_ 21 21503) rfl rfl (ao HT_) ?_
 refine pu_ 10 (some 46) (m_ 21 22527) rfl rfl (ao HT_) ?_
 refine tk_ 11 (some 47) (m_ 21 24575) rfl rfl (tw HT_ HW_) hHeld ?_
 refine tk_ 13 (some 49) (m_ 21 32767) rfl rfl (tw HT_ HW_) hHeld ?_
 refine pu_ 15 (some 51) (m_ 21 65535) rfl rfl (ao HT_) ?_
 refine pu_ 16 (some 52) (m_ 21 131071) rfl rfl (ao HT_) ?_
 refine tk_ 17 (some 53) (m_ 21 262143) rfl rfl (tw HT_ HW_) hHeld ?_
 refine o1_ 18 (some 54) (m_ 21 524287) rfl rfl (oo HT_) (fun K hK=>?_)
 refine Kd.R_lit_step Kd.string _ 9 ?hg (N:=54) ?hd (xs:=([(rd_T87 l3 x2).f0,(rd_T87 l3 x2).f1,(rd_T87 l3 x2).f2]:List ByteArray)) (inner:=[.string ((rd_T87 l3 x2).f0),.string ((rd_T87 l3 x2).f1),.string ((rd_T87 l3 x2).f2)]) (ok:=fun _=>True) (okp:=fun _=>True) ?hr ?hp (fun _ hk=>hk) trivial (Below.refl _ _) (Nat.le_refl _) (by simp) ?_;(case hd=>rfl);(case hg=>rfl);(case hr=>first|(go_simp;done)|(go_simp;rfl));(case hp=>exact (Reps.one (show Kd.M Kd.string _ _ _ ((rd_T87 l3 x2).f0) [.string ((rd_T87 l3 x2).f0)] from rfl) (Reps.one (show Kd.M Kd.string _ _ _ ((rd_T87 l3 x2).f1) [.string ((rd_T87 l3 x2).f1)] from rfl) (Reps.one (show Kd.M Kd.string _ _ _ ((rd_T87 l3 x2).f2) [.string ((rd_T87 l3 x2).f2)] from rfl) (Reps.none _ _)))))
 intro v1 w6 ho1 hb hg_ hnew_
 clear hg_ hnew_
 (first|rw [← Ny0.out] at ho1|(simp only [Int.reduceToNat] at ho1;rw [← Ny0.out] at ho1))
 have HO0:=am (Kd.R_lower ho1 (below_size (bf HB)))
 replace BK0:=bb BK0 hb
 replace HB:=bs HB hb
 clear hb ho1
 obtain ⟨Ao1,co1,eo1⟩:=Kd.R_slice HO0.out
 (first|subst eo1|(injection eo1 with f1_ f2_ f3_;have f4_:=f1_.symm;have f5_:=f3_.symm;clear f1_ f2_ f3_;subst f4_;subst f5_))
 refine hK.out _ _ ⟨ct BK0 0,ct BK0 1,ct BK0 2,ct BK0 3,ct BK0 4,ct BK0 5,ct BK0 6,ct BK0 7,ct BK0 8,(hx_ HB hw5 :),(hx_ HB hw4 :),(hx_ HB hw3 :),(hx_ HB hw2 :),(hx_ HB hw1 :),(hx_ HB hw0 :),(hx_ HB hw11 :),(hx_ HB hw10 :),(hx_ HB hw9 :),(hx_ HB hw8 :),(hx_ HB hw7 :),(hx_ HB hw6 :),(hx_ HB hw17 :),(hx_ HB hw16 :),(hx_ HB hw15 :),(hx_ HB hw14 :),(hx_ HB hw13 :),(hx_ HB hw12 :)⟩ (fun hHeld=>?_)
 clear hK K
 refine nr_ (some 54) ?_
 refine o1_ 19 (some 55) (m_ 21 1048575) rfl rfl (oo HT_) (fun K hK=>?_)
 refine gs_ rfl Tryd.func37 (carrefourlaw06_strings.calls _ _ _ _ _ _ ?side1 ?side2 A8.out) ag ?_
 (case side1=>exact rc HO0)
 (case side2=>exact (Kd.R_reads' HO0.out).2.1)
 rintro w' ⟨nd,rfl⟩
 refine hK.out _ _ ⟨ct BK0 0,ct BK0 1,ct BK0 2,ct BK0 3,ct BK0 4,ct BK0 5,ct BK0 6,ct BK0 7,ct BK0 8,(hx_ HB hw5 :),(hx_ HB hw4 :),(hx_ HB hw3 :),(hx_ HB hw2 :),(hx_ HB hw1 :),(hx_ HB hw0 :),(hx_ HB hw11 :),(hx_ HB hw10 :),(hx_ HB hw9 :),(hx_ HB hw8 :),(hx_ HB hw7 :),(hx_ HB hw6 :),(hx_ HB hw17 :),(hx_ HB hw16 :),(hx_ HB hw15 :),(hx_ HB hw14 :),(hx_ HB hw13 :),(hx_ HB hw12 :)⟩ (fun hHeld=>?_)
 clear hK K
 refine nr_ (some 55) ?_
 refine pu_ 20 (some 56) (m_ 21 2097151) rfl rfl (ao HT_) ?_
 refine done_ (done_of HT_.out (by kernel_rfl)) ?_
 try go_wp2
 go_ret
 exact ⟨ae,bf HB⟩}};{
 rw [if_neg c18] at H
 exact absurd H (by simp)}};{
 rw [if_neg c17] at H
 have c27:decide (x2<(l3.length:Int))=false:=decide_eq_false c17
 clear c17
 obtain rfl:=Option.some.inj H
 have hcz7:=X.k9 BK0
 go_wp2
 go_ret
 exact ⟨ae,bf HB⟩}}}}}}}}}
end Go.Proofs.YtenphnkiacfmiaaDoor.X
