/- Walks: each '.calls' says that the Go function comes to what its Lean function tells. Conditions: as each theorem's head says. -/
import Derived.Test.YtenphnkiacfmiaaDoorXD
import Derived.Test.YtenphnkiacfmiaaDoorX0
import Derived.Test.YtenphnkiacfmiaaDoorX1
import Derived.Test.YtenphnkiacfmiaaDoorX7
import Derived.Test.YtenphnkiacfmiaaDoorX16
import Derived.Test.YtenphnkiacfmiaaDoorX19
import Derived.Test.YtenphnkiacfmiaaDoorX20
import Derived.Test.YtenphnkiacfmiaaDoorX21
import Derived.Test.YtenphnkiacfmiaaDoorX26
import Derived.Test.YtenphnkiacfmiaaDoorX27
namespace Go.Proofs.YtenphnkiacfmiaaDoor.X
open Go.RowKit Go.Proofs.YtenphnkiacfmiaaDoorW.PrintWords Go.Proofs.YtenphnkiacfmiaaDoorW.PrintLast Go.Proofs.YtenphnkiacfmiaaDoorW.PrintMore
attribute [local go_sem] max2_int min2_int max_two min_two max_three min_three max_four min_four
set_option linter.unusedVariables false
set_option maxHeartbeats 8000000
set_option maxRecDepth 100000
set_option linter.unusedSimpArgs false
attribute [local go_sem high] eqA36
theorem carrefourlaw11_CritMost.calls (k:Nat) (a0:ByteArray) (A0:Option Addr) (c0:Nat) (l3:List (S96)) (A2:Option Addr) (c4:Nat) (l4:List (S98)) (A3:Option Addr) (c10:Nat) (l5:List (S61)) (A4:Option Addr) (c11:Nat) (l6:List (S33)) (A6:Option Addr) (c16:Nat) (l7:List (S100)) (a1:Int) (A1:Option Addr) (c1:Nat) (l1:List (S36)) (r:Bool) (w:World) (hr0:Kd.C k96 w A0 l3.length l3) (hc0:l3.length≤c0) (hr2:Kd.C k98 w A2 l4.length l4) (hc2:l4.length≤c4) (hr3:Kd.C k61 w A3 l5.length l5) (hc3:l5.length≤c10) (hr4:Kd.C k33 w A4 l6.length l6) (hc4:l6.length≤c11) (hr5:Kd.C k100 w A6 l7.length l7) (hc5:l7.length≤c16) (hr1:Kd.C k36 w A1 l1.length l1) (hc1:l1.length≤c1) (h:carrefourlaw11_CritMost.f k a0 l3 l4 l5 l6 l7 a1 l1=some r) (hT:TabOK w) :
  Calls Tryd.prog 3 #[.agg #[.string a0,.slice A0 l3.length c0,.slice A2 l4.length c4,.slice A3 l5.length c10,.slice A4 l6.length c11,.slice A6 l7.length c16,.int .i64 a1],.slice A1 l1.length c1] w fun e w'=>e=.returned (.bool r)∧Below w.heap.size w w':=by
 have GT:=am hT
 clear hT
 have hu0:=Tryd.underlying28
 have hu1:=Tryd.underlying39
 have hu2:=Tryd.underlying36
 have HR0:=am hr0
 have HC0:=am hc0
 clear hr0 hc0
 have HR2:=am hr2
 have HC2:=am hc2
 clear hr2 hc2
 have HR3:=am hr3
 have HC4:=am hc3
 clear hr3 hc3
 have HR4:=am hr4
 have HC5:=am hc4
 clear hr4 hc4
 have HR5:=am hr5
 have HC6:=am hc5
 clear hr5 hc5
 have HR1:=am hr1
 have HC1:=am hc1
 clear hr1 hc1
 have HB:=am (Below.refl w.heap.size w)
 have H:((carrefourlaw11_few.f k a0 l3 l4 l5 l6 l7 a1 l1).bind fun t0=>(if t0=true then (carrefourlaw11_CritMost.j0 k l1 (decide ((l6.length:Int)>5)) a0 l3 l4 l5 l6 l7 a1) else (carrefourlaw11_CritMost.j0 k l1 true a0 l3 l4 l5 l6 l7 a1)))=some r:=h
 clear h
 have HC3:=am H
 clear H
 go_enter Tryd.func3,Tryd.ntmps3
 go_upto_region 1 with (first|((with_reducible refine gate_dst (N:=2) rfl ?_);(try (refine gate_guard (by rfl) ?_;dsimp only));refine box_event ?hg (N:=2) ?hd (cs:=#[.string a0,.slice A0 l3.length c0,.slice A2 l4.length c4,.slice A3 l5.length c10,.slice A4 l6.length c11,.slice A6 l7.length c16,.int .i64 a1]) (t:=28) ?hr ?_;(case hd=>rfl);(case hg=>rfl);(case hr=>first|(go_simp;done)|(go_simp;rfl));intro gb0 hg w4 hbox hb;have BK0:=am (hbox);have GE0:=bz HB hg;replace HB:=bs HB hb;clear hb hg))
 (try simp only [Act.put,si,s0,s1])
 go_cut [25] (fun v0 wc=>∃ (kq:Nat) (x0:Bool),v0=.bool x0∧Aside0 (carrefourlaw11_CritMost.j0 kq l1 x0 a0 l3 l4 l5 l6 l7 a1=some r)∧Aside0 (kq≤k)∧Aside0 (wc.heap[gb0]?=some (.cells #[.string a0,(.slice A0 l3.length c0),(.slice A2 l4.length c4),(.slice A3 l5.length c10),(.slice A4 l6.length c11),(.slice A6 l7.length c16),.int .i64 a1] 28 (0,0)))∧Aside0 (Below w.heap.size w wc))
 case first =>skip;{
 have H:=HC3.out
 clear HC3
 replace H:=bi_ H;obtain ⟨t0,A5,H⟩:=H
 (try dsimp only at H)
 by_cases c6:t0=true;{
 subst c6
 have H1:(carrefourlaw11_CritMost.j0 k l1 (decide ((l6.length:Int)>5)) a0 l3 l4 l5 l6 l7 a1)=some r:=by rw [if_pos rfl] at H;exact H
 clear H
 have H:=H1
 clear H1
 have H':=am H
 clear H
 have hcz7:=X.k7 BK0
 go_wp2_with (first|((with_reducible refine gc 5 rfl ?_);refine gm_ (some 18) rfl rfl Tryd.func5 (carrefourlaw11_few.calls _ _ (fun k_=>k_<w.heap.size) _ _ _ (fun k_=>k_<w.heap.size) _ _ _ (fun k_=>k_<w.heap.size) _ _ _ (fun k_=>k_<w.heap.size) _ _ _ (fun k_=>k_<w.heap.size) _ _ _ _ _ _ _ _ _ ?side1 ?side2 ?side3 ?side4 ?side5 ?side6 ?side7 A5.out) ag ?_;(case side1=>exact Kd.V_mk HC0.out (Kd.F_below (Kd.C_F k96_heap HR0.out) (bf HB)));(case side2=>exact Kd.V_mk HC2.out (Kd.F_below (Kd.C_F k98_heap HR2.out) (bf HB)));(case side3=>exact Kd.V_mk HC4.out (Kd.F_below (Kd.C_F k61_heap HR3.out) (bf HB)));(case side4=>exact Kd.V_mk HC5.out (Kd.F_below (Kd.C_F k33_heap HR4.out) (bf HB)));(case side5=>exact Kd.V_mk HC6.out (Kd.F_below (Kd.C_F k100_heap HR5.out) (bf HB)));(case side6=>repeat (first|exact (Kd.C_below HR1.out HB.out)|(with_reducible refine Kd.C_alloc ?_ _)|(with_reducible refine Kd.C_drewN ?_ _)|(with_reducible refine Kd.C_drew ?_)));(case side7=>exact HC1.out);intro w8 hb;replace BK0:=bb BK0 hb;replace HB:=bs HB hb;(try clear hb);have hcz9:=X.k7 BK0))
 go_meet
 case rel=>exact ⟨_,(decide ((l6.length:Int)>5)),(aq),H',⟨by first|omega|exact Nat.le_refl _⟩,bu_ BK0,⟨bf HB⟩⟩};{
 replace c6:=Bool.eq_false_iff.mpr c6
 subst c6
 have H1:(carrefourlaw11_CritMost.j0 k l1 true a0 l3 l4 l5 l6 l7 a1)=some r:=by rw [if_neg (show ¬ (false=true) by decide)] at H;exact H
 clear H
 have H:=H1
 clear H1
 have H':=am H
 clear H
 have hcz0:=X.k7 BK0
 go_wp2_with (first|((with_reducible refine gc 5 rfl ?_);refine gm_ (some 18) rfl rfl Tryd.func5 (carrefourlaw11_few.calls _ _ (fun k_=>k_<w.heap.size) _ _ _ (fun k_=>k_<w.heap.size) _ _ _ (fun k_=>k_<w.heap.size) _ _ _ (fun k_=>k_<w.heap.size) _ _ _ (fun k_=>k_<w.heap.size) _ _ _ _ _ _ _ _ _ ?side1 ?side2 ?side3 ?side4 ?side5 ?side6 ?side7 A5.out) ag ?_;(case side1=>exact Kd.V_mk HC0.out (Kd.F_below (Kd.C_F k96_heap HR0.out) (bf HB)));(case side2=>exact Kd.V_mk HC2.out (Kd.F_below (Kd.C_F k98_heap HR2.out) (bf HB)));(case side3=>exact Kd.V_mk HC4.out (Kd.F_below (Kd.C_F k61_heap HR3.out) (bf HB)));(case side4=>exact Kd.V_mk HC5.out (Kd.F_below (Kd.C_F k33_heap HR4.out) (bf HB)));(case side5=>exact Kd.V_mk HC6.out (Kd.F_below (Kd.C_F k100_heap HR5.out) (bf HB)));(case side6=>repeat (first|exact (Kd.C_below HR1.out HB.out)|(with_reducible refine Kd.C_alloc ?_ _)|(with_reducible refine Kd.C_drewN ?_ _)|(with_reducible refine Kd.C_drew ?_)));(case side7=>exact HC1.out);intro w1 hb;replace BK0:=bb BK0 hb;replace HB:=bs HB hb;(try clear hb)))
 go_meet
 case rel=>exact ⟨_,(true),(aq),H',⟨by first|omega|exact Nat.le_refl _⟩,bu_ BK0,⟨bf HB⟩⟩}}
 case rest =>skip;{
 clear HC3
 (try clear c1);(try clear p2);(try clear c3);(try clear c5);(try clear c6);(try clear hcz0);(try clear hcz7);(try clear hcz9)
 obtain ⟨kq,x0,rfl,HA,HJ2,BK0,HB⟩:=hcut
 cases kq with
 | zero=>exact absurd HA.out (by simp [carrefourlaw11_CritMost.j0])
 | succ kj2 =>skip;{
 have H:=HA.out
 clear HA
 simp only [carrefourlaw11_CritMost.j0] at H
 by_cases c12:x0=true;{
 subst c12
 have H1:(some true)=some r:=by rw [if_pos rfl] at H;exact H
 clear H
 have H:=H1
 clear H1
 obtain rfl:=Option.some.inj H
 go_wp2
 go_ret
 exact ⟨ae,bf HB⟩};{
 replace c12:=Bool.eq_false_iff.mpr c12
 subst c12
 have H1:(carrefourlaw11_CritMost.l0 kj2 l1 0 a0 l3 l4 l5 l6 l7 a1)=some r:=by rw [if_neg (show ¬ (false=true) by decide)] at H;exact H
 clear H
 have H:=H1
 clear H1
 have H':=am H
 clear H
 go_wp2
 go_loopg [5] kj2 (fun kq v5 w'=>∃ (x1:Int),v5=.int .i64 x1∧Aside0 (carrefourlaw11_CritMost.l0 kq l1 x1 a0 l3 l4 l5 l6 l7 a1=some r)∧Aside0 (kq≤kj2)∧Aside0 (w'.heap[gb0]?=some (.cells #[.string a0,(.slice A0 l3.length c0),(.slice A2 l4.length c4),(.slice A3 l5.length c10),(.slice A4 l6.length c11),(.slice A6 l7.length c16),.int .i64 a1] 28 (0,0)))∧Aside0 (Below w.heap.size w w'))
 case atStart=>exact ⟨(0),(aq),H',⟨Nat.le_refl _⟩,bu_ BK0,⟨bf HB⟩⟩
 case round =>skip;{
 clear H'
 (try clear c1);(try clear p2);(try clear c3);(try clear c5);(try clear c6);(try clear c12);(try clear hcz0);(try clear hcz7);(try clear hcz9);(try clear p2)
 obtain ⟨x1,rfl,HA,HK2,BK0,HB⟩:=hrel
 cases gk with
 | zero=>exact absurd HA.out (by simp [carrefourlaw11_CritMost.l0])
 | succ k2 =>skip;{
 have H:=HA.out
 clear HA
 simp only [carrefourlaw11_CritMost.l0] at H
 by_cases c13:x1<(l6.length:Int);{
 rw [if_pos c13] at H
 have c19:decide (x1<(l6.length:Int))=true:=decide_eq_true c13
 clear c13
 by_cases c14:0≤x1;{
 rw [if_pos c14] at H
 have c22:decide (0≤x1)=true:=decide_eq_true c14
 clear c14
 by_cases c15:(((rd_T33 l6 x1).f0).length:Int)>2;{
 rw [if_pos c15] at H
 have c24:decide (2<(((rd_T33 l6 x1).f0).length:Int))=true:=decide_eq_true c15
 have c25:decide (2<((rd_T33 l6 x1).f0).length)=true:=decide_eq_true (by omega)
 clear c15
 replace H:=bi_ H;obtain ⟨t1,A7,H⟩:=H
 (try dsimp only at H)
 obtain rfl:=Option.some.inj H
 have hcz1:=X.k7 BK0
 have p0:0≤(x1:Int):=od_
 have q0:x1<(l6.length:Int):=od_
 obtain ⟨ad0,A8,c27,e0,hx0,hl0,hi0⟩:=at_T33 HR4.out x1 p0 q0
 cases e0
 replace hx0:=hx_ HB hx0
 have HR6:=am hi0
 have HC7:=am hl0
 clear hi0 hl0
 replace p0:=eq_true p0
 replace q0:=eq_true q0
 go_wp2_with (first|((with_reducible refine gc 6 rfl ?_);refine gm_ (some 41) rfl rfl Tryd.func6 (carrefourlaw11_awake.calls _ _ _ A7.out (tt GT)) ag ?_;intro w2 hb;replace BK0:=bb BK0 hb;replace HB:=bs HB hb;(try clear hb)))
 go_ret
 exact ⟨ae,bf HB⟩};{
 rw [if_neg c15] at H
 have c24:decide (2<(((rd_T33 l6 x1).f0).length:Int))=false:=decide_eq_false c15
 have c25:decide (2<((rd_T33 l6 x1).f0).length)=false:=decide_eq_false (by omega)
 clear c15
 have H':=am H
 clear H
 have hcz2:=X.k7 BK0
 have p0:0≤(x1:Int):=od_
 have q0:x1<(l6.length:Int):=od_
 obtain ⟨ad0,A8,c27,e0,hx0,hl0,hi0⟩:=at_T33 HR4.out x1 p0 q0
 cases e0
 replace hx0:=hx_ HB hx0
 have HR6:=am hi0
 have HC7:=am hl0
 clear hi0 hl0
 replace p0:=eq_true p0
 replace q0:=eq_true q0
 go_wp2
 go_roundg k2
 case measure=>have:=HJ2.out;have:=HK2.out;omega
 case rel=>exact ⟨(wrap64 (x1+1)),(aq),H',⟨by have:=HJ2.out;have:=HK2.out;omega⟩,bu_ BK0,⟨bf HB⟩⟩}};{
 rw [if_neg c14] at H
 exact absurd H (by simp)}};{
 rw [if_neg c13] at H
 have c19:decide (x1<(l6.length:Int))=false:=decide_eq_false c13
 clear c13
 replace H:=bi_ H;obtain ⟨⟨t2,t3,t4,t5⟩,A9,H⟩:=H
 (try dsimp only at H)
 by_cases c21:t5=0;{
 rw [if_pos c21] at H
 have c29:(t5==0)=true:=beq_iff_eq.mpr c21
 have c30:(t5 != 0)=false:=bne_eq_false_iff_eq.mpr c21
 clear c21
 replace H:=bi_ H;obtain ⟨t6,A22,H⟩:=H
 (try dsimp only at H)
 have H':=am H
 clear H
 have hcz3:=X.k7 BK0
 go_wp2_with (first|((with_reducible refine gc 7 rfl ?_);refine gl_ (some 45) rfl rfl Tryd.func7 ((crit_Sum.calls _ _ _ _ _ _ _ _ _ _ _ _ _ _ _ _ _ _ _ _ _ _ _ _ _ _ ?side1 ?side2 ?side3 ?side4 ?side5 ?side6 ?side7 ?side8 ?side9 ?side10 ?side11 ?side12 A9.out (tt GT)).mono ?_) ag;(case side1=>repeat (first|exact (Kd.C_below HR0.out HB.out)|(with_reducible refine Kd.C_alloc ?_ _)|(with_reducible refine Kd.C_drewN ?_ _)|(with_reducible refine Kd.C_drew ?_)));(case side2=>exact HC0.out);(case side3=>repeat (first|exact (Kd.C_below HR2.out HB.out)|(with_reducible refine Kd.C_alloc ?_ _)|(with_reducible refine Kd.C_drewN ?_ _)|(with_reducible refine Kd.C_drew ?_)));(case side4=>exact HC2.out);(case side5=>repeat (first|exact (Kd.C_below HR3.out HB.out)|(with_reducible refine Kd.C_alloc ?_ _)|(with_reducible refine Kd.C_drewN ?_ _)|(with_reducible refine Kd.C_drew ?_)));(case side6=>exact HC4.out);(case side7=>repeat (first|exact (Kd.C_below HR4.out HB.out)|(with_reducible refine Kd.C_alloc ?_ _)|(with_reducible refine Kd.C_drewN ?_ _)|(with_reducible refine Kd.C_drew ?_)));(case side8=>exact HC5.out);(case side9=>repeat (first|exact (Kd.C_below HR5.out HB.out)|(with_reducible refine Kd.C_alloc ?_ _)|(with_reducible refine Kd.C_drewN ?_ _)|(with_reducible refine Kd.C_drew ?_)));(case side10=>exact HC6.out);(case side11=>repeat (first|exact (Kd.C_below HR1.out HB.out)|(with_reducible refine Kd.C_alloc ?_ _)|(with_reducible refine Kd.C_drewN ?_ _)|(with_reducible refine Kd.C_drew ?_)));(case side12=>exact HC1.out);rintro e w3 ⟨v1,rfl,ho0,hb⟩;refine ⟨_,rfl,?_⟩;have HO0:=am (Kd.R_lower ho0 (below_size (bf HB)));replace BK0:=bb BK0 hb;replace HB:=bs HB hb;(try clear hb);(try clear ho0))|((with_reducible refine gate_dst (N:=6) rfl ?_);(try (refine gate_guard (by rfl) ?_;dsimp only));refine box_event ?hg (N:=6) ?hd (cs:=#[.int .i64 0,.int .i64 0,.slice none 0 0]) (t:=39) ?hr ?_;(case hd=>rfl);(case hg=>rfl);(case hr=>first|(go_simp;done)|(go_simp;rfl));intro gb1 hg w5 hbox hb;have BK1:=am (hbox);have GE1:=bz HB hg;have ⟨NB0,NB1⟩:=nb BK0 hg;replace HO0:=rb HO0 hb;replace BK0:=bb BK0 hb;replace HB:=bs HB hb;clear hb hg;have hnb0:=nn NB1;have hcz4:=X.k3 BK1;obtain ⟨Ao0,co0,eo0⟩:=Kd.R_slice HO0.out;subst eo0;have hcz5:=X.k7 BK0)|((with_reducible refine gc 8 rfl ?_);refine gl_ (some 52) rfl rfl Tryd.func8 ((carrefourlaw11_ways.calls _ _ _ _ _ _ _ _ _ _ _ _ _ _ _ _ _ _ _ _ _ ?side1 ?side2 ?side3 ?side4 ?side5 ?side6 ?side7 ?side8 ?side9 ?side10 A22.out).mono ?_) ag;(case side1=>exact Kd.C_below HR0.out (bf HB));(case side2=>exact HC0.out);(case side3=>exact Kd.C_below HR2.out (bf HB));(case side4=>exact HC2.out);(case side5=>exact Kd.C_below HR3.out (bf HB));(case side6=>exact HC4.out);(case side7=>exact Kd.C_below HR4.out (bf HB));(case side8=>exact HC5.out);(case side9=>exact Kd.C_below HR5.out (bf HB));(case side10=>exact HC6.out);rintro e w6 ⟨v2,rfl,ho0,hb⟩;refine ⟨_,rfl,?_⟩;have HO1:=am (Kd.N_lower (Kd.N_mono (ok':=fun k_=>some k_≠(.slice Ao0 t4.length co0:Value).ownBlock∧k_≠gb0∧k_≠gb1) ho0 (fun k_ hk_=>⟨(Kd.fresh' (Kd.R_lt (Rt_ (Kd.R_mono (Kd.R_far (p:=⟨gb1,2,none⟩) (Kd.R_far (p:=⟨gb1,1,none⟩) (Kd.R_far (p:=⟨gb1,0,none⟩) (Kd.R_types HO0.out BK1.out (by decide)) (fun _ hk=>hk.2) (.int .i64 t2)) (fun _ hk=>hk.2) (.int .i64 t3)) (fun _ hk=>hk.2) (.slice Ao0 t4.length co0)) (fun _ h_=>h_.1)))) k_ hk_),(Kd.freshB (g:=gb0) (o:=.cells #[.string a0,.slice A0 l3.length c0,.slice A2 l4.length c4,.slice A3 l5.length c10,.slice A4 l6.length c11,.slice A6 l7.length c16,.int .i64 a1] 28 (0,0)) (bx BK0) k_ hk_),(Kd.freshB (g:=gb1) (o:=.cells #[.int .i64 t2,.int .i64 t3,.slice Ao0 t4.length co0] 39 (0,0)) (br_ BK1) k_ hk_)⟩)) (below_size (bf HB)));replace HO0:=am (Kd.R_below (Rt_ (Kd.R_mono (Kd.R_far (p:=⟨gb1,2,none⟩) (Kd.R_far (p:=⟨gb1,1,none⟩) (Kd.R_far (p:=⟨gb1,0,none⟩) (Kd.R_types HO0.out BK1.out (by decide)) (fun _ hk=>hk.2) (.int .i64 t2)) (fun _ hk=>hk.2) (.int .i64 t3)) (fun _ hk=>hk.2) (.slice Ao0 t4.length co0)) (fun _ h_=>h_.1))) hb);replace BK0:=bb BK0 hb;replace BK1:=bp_ #[.int .i64 t2,.int .i64 t3,.slice Ao0 t4.length co0] BK1 hb;replace HB:=bs HB hb;(try clear hb);(try clear ho0)))
 go_loopg [9,10] k2 (fun kq v9 v3 w'=>∃ (x2:Bool) (x3:Int),v9=.bool x2∧v3=.int .i64 x3∧Aside0 (carrefourlaw11_CritMost.l1 kq l1 t6 x2 x3 a0 l3 l4 l5 l6 l7 a1 t2 t3 t4=some r)∧Aside0 (kq≤k2)∧Aside0 (Kd.N (Kd.slice 3 (Kd.int .i64)) 37 w' w.heap.size (fun k_=>some k_≠((.slice Ao0 t4.length co0):Value).ownBlock∧k_≠gb0∧k_≠gb1) v2 t6)∧Aside0 (Kd.R (Kd.int .i64) 3 w' w.heap.size (fun _=>True) (.slice Ao0 t4.length co0) t4)∧Aside0 (w'.heap[gb0]?=some (.cells #[.string a0,(.slice A0 l3.length c0),(.slice A2 l4.length c4),(.slice A3 l5.length c10),(.slice A4 l6.length c11),(.slice A6 l7.length c16),.int .i64 a1] 28 (0,0)))∧Aside0 (w'.heap[gb1]?=some (.cells #[.int .i64 t2,.int .i64 t3,(.slice Ao0 t4.length co0)] 39 (0,0)))∧Aside0 (Below w.heap.size w w'))
 case atStart=>exact ⟨(false),(0),(aq),(aq),H',⟨Nat.le_refl _⟩,⟨Nt_ HO1.out⟩,⟨Rt_ HO0.out⟩,bu_ BK0,bu_ BK1,⟨bf HB⟩⟩
 case round =>skip;{
 clear H'
 (try clear c1);(try clear c2);(try clear p2);(try clear c3);(try clear c5);(try clear c6);(try clear p6);(try clear c7);(try clear p7);(try clear q7);(try clear hx7);(try clear c8);(try clear c12);(try clear c13);(try clear c19);(try clear c14);(try clear c22);(try clear c15);(try clear c24);(try clear c25);(try clear c21);(try clear c29);(try clear c30);(try clear c26);(try clear hcz0);(try clear hcz1);(try clear hcz2);(try clear hcz3);(try clear hcz4);(try clear hcz5);(try clear hcz7);(try clear hcz9);(try clear hx0);(try clear p2);(try clear p0);(try clear q0)
 obtain ⟨x2,x3,rfl,rfl,HA,HK3,HO2,HO3,BK0,BK1,HB⟩:=hrel
 cases gk with
 | zero=>exact absurd HA.out (by simp [carrefourlaw11_CritMost.l1])
 | succ k3 =>skip;{
 have H:=HA.out
 clear HA
 simp only [carrefourlaw11_CritMost.l1] at H
 by_cases c31:x3<(t6.length:Int);{
 rw [if_pos c31] at H
 have c35:decide (x3<(t6.length:Int))=true:=decide_eq_true c31
 clear c31
 by_cases c32:0≤x3;{
 rw [if_pos c32] at H
 have c42:decide (0≤x3)=true:=decide_eq_true c32
 clear c32
 replace H:=bi_ H;obtain ⟨t7,A33,H⟩:=H
 (try dsimp only at H)
 have H':=am H
 clear H
 obtain ⟨Ao1,co1,eo1⟩:=Kd.N_slice HO2.out
 subst eo1
 try go_wp2
 replace HO2:=am (Kd.N_drew HO2.out)
 replace HO3:=am (Kd.R_drew HO3.out)
 replace BK0:=am (blk_drew BK0.out)
 replace BK1:=am (blk_drew BK1.out)
 replace HB:=am (below_drew1 HB.out)
 have p1:0≤(x3:Int):=od_
 have q1:x3<(t6.length:Int):=od_
 obtain ⟨ad1,A12,c43,e1,hx1,hl1,hi1⟩:=at_L19 (Kd.N_reads' HO2.out).2.2 x3 p1 q1
 cases e1
 obtain ⟨ce0,hce0,hMe0,hcc0⟩:=Kd.N_get HO2.out [] x3 p1 (by first|exact q1|exact od_|(have e_:=(Kd.N_reads' HO2.out).1;omega))
 obtain ⟨ua0,uc0,rfl,ul0,ge0⟩:=Kd.FK_slice_open hMe0
 have hv0:=hcc0 0 _ rfl
 rw [Nat.add_zero,show ((Kd.slice 3 (Kd.int .i64))).sz=1 from rfl,Nat.mul_one] at hv0
 replace hv0:=Option.some.inj (hv0.symm.trans hx1)
 injection hv0 with hva_ hvn_ hvc_
 rw [hva_] at ge0
 rw [hvc_] at ul0
 have HL0:=am (show Kd.V (Kd.int .i64) 3 _ w.heap.size _ _ (rd_L19 t6 x3) from Kd.V_mk ul0 ge0)
 clear hva_ hvn_ hvc_ ge0 ul0
 clear hcc0 hce0
 have HR7:=am hi1
 have HC8:=am hl1
 clear hi1 hl1
 replace p1:=eq_true p1
 replace q1:=eq_true q1
 refine start_ (n:=7) (S:=fun w'=>c_ w' gb0 0 (.string a0)∧c_ w' gb0 1 (.slice A0 l3.length c0)∧c_ w' gb0 2 (.slice A2 l4.length c4)∧c_ w' gb0 3 (.slice A3 l5.length c10)∧c_ w' gb0 4 (.slice A4 l6.length c11)∧c_ w' gb0 5 (.slice A6 l7.length c16)∧c_ w' gb0 6 (.int .i64 a1)∧w'.cell? (ad1.add (x3).toNat)=some (.slice A12 (rd_L19 t6 x3).length c43)) (ds:=[]) (m_ 7 0) (by kernel_rfl) rfl rfl ⟨ct BK0 0,ct BK0 1,ct BK0 2,ct BK0 3,ct BK0 4,ct BK0 5,ct BK0 6,hx1⟩ (fun hHeld=>?_)
 generalize wr.drew=w7 at HO2 HO3 BK0 BK1 HB HL0 HR7 hx1 hHeld ⊢
 refine pu_ 1 (some 60) (m_ 7 2) rfl rfl (by kernel_rfl) ?_
 refine pu_ 2 (some 61) (m_ 7 6) rfl rfl (by kernel_rfl) ?_
 refine pu_ 3 (some 62) (m_ 7 14) rfl rfl (by kernel_rfl) ?_
 refine tk_ 0 (some 59) (m_ 7 15) rfl rfl (by kernel_rfl) hHeld ?_
 refine tk_ 4 (some 63) (m_ 7 31) rfl rfl (by kernel_rfl) hHeld ?_
 refine o1_ 5 (some 64) (m_ 7 63) rfl rfl (by kernel_rfl) (fun K hK=>?_)
 refine goes_ Tryd.func9 (by kernel_rfl) rfl #[.agg #[.string a0,.slice A0 l3.length c0,.slice A2 l4.length c4,.slice A3 l5.length c10,.slice A4 l6.length c11,.slice A6 l7.length c16,.int .i64 a1],.slice A12 (rd_L19 t6 x3).length c43] (by rfl) rfl rfl ag ?_
 with_reducible refine (carrefourref11_Way.calls _ _ _ _ _ _ _ _ _ _ _ _ _ _ _ _ _ _ _ _ (rd_L19 t6 x3) _ _ ?side1 ?side2 ?side3 ?side4 ?side5 ?side6 ?side7 ?side8 ?side9 ?side10 ?side11 ?side12 A33.out).mono ?_
 (case side1=>repeat (first|exact (Kd.C_below HR0.out HB.out)|(with_reducible refine Kd.C_alloc ?_ _)|(with_reducible refine Kd.C_drewN ?_ _)|(with_reducible refine Kd.C_drew ?_)))
 (case side2=>exact HC0.out)
 (case side3=>repeat (first|exact (Kd.C_below HR2.out HB.out)|(with_reducible refine Kd.C_alloc ?_ _)|(with_reducible refine Kd.C_drewN ?_ _)|(with_reducible refine Kd.C_drew ?_)))
 (case side4=>exact HC2.out)
 (case side5=>repeat (first|exact (Kd.C_below HR3.out HB.out)|(with_reducible refine Kd.C_alloc ?_ _)|(with_reducible refine Kd.C_drewN ?_ _)|(with_reducible refine Kd.C_drew ?_)))
 (case side6=>exact HC4.out)
 (case side7=>repeat (first|exact (Kd.C_below HR4.out HB.out)|(with_reducible refine Kd.C_alloc ?_ _)|(with_reducible refine Kd.C_drewN ?_ _)|(with_reducible refine Kd.C_drew ?_)))
 (case side8=>exact HC5.out)
 (case side9=>repeat (first|exact (Kd.C_below HR5.out HB.out)|(with_reducible refine Kd.C_alloc ?_ _)|(with_reducible refine Kd.C_drewN ?_ _)|(with_reducible refine Kd.C_drew ?_)))
 (case side10=>exact HC6.out)
 (case side11=>repeat (first|exact (by repeat (first|(with_reducible exact HR7.out)|(with_reducible refine Kd.C_alloc ?_ _)|(with_reducible refine Kd.C_drewN ?_ _)|(with_reducible refine Kd.C_drew ?_)|exact HR7.out))|(with_reducible refine Kd.C_alloc ?_ _)|(with_reducible refine Kd.C_drewN ?_ _)|(with_reducible refine Kd.C_drew ?_)))
 (case side12=>exact HC8.out)
 rintro e w9 ⟨v4,rfl,ho0,hb⟩
 have HS0:=(hb.cell (World.block_lt_of_cell? _ _ (hHeld.2.2.2.2.2.2.2))).trans (hHeld.2.2.2.2.2.2.2)
 refine ⟨_,rfl,?_⟩
 have HO4:=am (Kd.R_lower (Kd.R_new' ho0 (Kd.R_lt (Rt_ HO3.out))) (below_size (bf HB)))
 replace HO2:=am (Kd.N_elder' (Nt_ HO2.out) (Kd.R_base ho0) hb)
 replace HO3:=am (Kd.R_elder' (Rt_ HO3.out) (Kd.R_base ho0) hb)
 replace HL0:=am (Kd.V_elder' (Vt_ HL0.out) (Kd.R_base ho0) hb)
 replace BK0:=bb BK0 hb
 replace BK1:=bb BK1 hb
 replace HR7:=am (Kd.C_below (by repeat (first|(with_reducible exact HR7.out)|(with_reducible refine Kd.C_alloc ?_ _)|(with_reducible refine Kd.C_drewN ?_ _)|(with_reducible refine Kd.C_drew ?_)|exact HR7.out)) hb)
 replace HB:=bs HB hb
 (try clear hb);(try clear ho0)
 refine hK.out _ _ ⟨ct BK0 0,ct BK0 1,ct BK0 2,ct BK0 3,ct BK0 4,ct BK0 5,ct BK0 6,HS0⟩ (fun hHeld=>?_)
 clear hK K
 refine nr_ (some 64) ?_
 refine pu_ 6 (some 11) (m_ 7 127) rfl rfl (by kernel_rfl) ?_
 refine done_ (by kernel_rfl) ?_
 try go_wp2
 go_loopg [12,13] k3 (fun kq v6 v7 w'=>∃ (x4:List (S36)) (x5:Int),v7=.int .i64 x5∧Aside0 (carrefourlaw11_CritMost.l2 kq l1 t6 x2 x3 t7 x4 x5 a0 l3 l4 l5 l6 l7 a1 t2 t3 t4=some r)∧Aside0 (kq≤k3)∧Aside0 (Kd.N (Kd.slice 3 (Kd.int .i64)) 37 w' w.heap.size (fun k_=>some k_≠(v4:Value).ownBlock∧some k_≠(v6:Value).ownBlock∧some k_≠((.slice Ao0 t4.length co0):Value).ownBlock∧k_≠gb0∧k_≠gb1) (.slice (some ad1) t6.length co1) t6)∧Aside0 (Kd.R (Kd.int .i64) 3 w' w.heap.size (fun k_=>some k_≠((.slice Ao0 t4.length co0):Value).ownBlock) v4 t7)∧Aside0 (Kd.R k36 36 w' w.heap.size (fun _=>True) v6 x4)∧Aside0 (Kd.R (Kd.int .i64) 3 w' w.heap.size (fun k_=>some k_≠(v4:Value).ownBlock) (.slice Ao0 t4.length co0) t4)∧Aside0 (w'.heap[gb0]?=some (.cells #[.string a0,(.slice A0 l3.length c0),(.slice A2 l4.length c4),(.slice A3 l5.length c10),(.slice A4 l6.length c11),(.slice A6 l7.length c16),.int .i64 a1] 28 (0,0)))∧Aside0 (w'.heap[gb1]?=some (.cells #[.int .i64 t2,.int .i64 t3,(.slice Ao0 t4.length co0)] 39 (0,0)))∧Aside0 (Below w.heap.size w w'))
 case atStart=>exact ⟨(([]:List (S36))),(0),(aq),H',⟨Nat.le_refl _⟩,⟨Nt_ (Kd.N_mono HO2.out (fun _ hk=>⟨hk.2,⟨(by simp [Value.ownBlock]),⟨hk.1.1,⟨hk.1.2.1,hk.1.2.2⟩⟩⟩⟩))⟩,⟨Rt_ (Kd.R_mono HO4.out (fun _ hk=>hk.2))⟩,⟨by first|exact Kd.R_nil _ _ _ _ _|exact Kd.N_nil _ _ _ _ _|exact Kd.V_nil _ _ _ _ _|exact Kd.Q_nil _ _ _ _ _|exact Kd.S_nil _ _ _ _ _⟩,⟨Rt_ (Kd.R_mono HO3.out (fun _ hk=>hk.2))⟩,bu_ BK0,bu_ BK1,⟨bf HB⟩⟩
 case round =>skip;{
 clear H'
 (try clear c1);(try clear c2);(try clear p2);(try clear c3);(try clear c5);(try clear c6);(try clear p6);(try clear c7);(try clear p7);(try clear q7);(try clear hx7);(try clear c8);(try clear c9);(try clear c12);(try clear c13);(try clear c19);(try clear c14);(try clear c22);(try clear c15);(try clear c24);(try clear c25);(try clear c21);(try clear c29);(try clear c30);(try clear c26);(try clear c31);(try clear c35);(try clear c32);(try clear c42);(try clear hcz0);(try clear hcz1);(try clear hcz2);(try clear hcz3);(try clear hcz4);(try clear hcz5);(try clear hcz7);(try clear hcz9);(try clear hx0);(try clear hx1);(try clear p2);(try clear p6);(try clear p7);(try clear p0);(try clear p1);(try clear q7);(try clear q0);(try clear q1)
 obtain ⟨x4,x5,rfl,HA,HK4,HO2,HO5,HO6,HO3,BK0,BK1,HB⟩:=hrel
 cases gk with
 | zero=>exact absurd HA.out (by simp [carrefourlaw11_CritMost.l2])
 | succ k4 =>skip;{
 have H:=HA.out
 clear HA
 simp only [carrefourlaw11_CritMost.l2] at H
 by_cases c37:x5<(t7.length:Int);{
 rw [if_pos c37] at H
 have c46:decide (x5<(t7.length:Int))=true:=decide_eq_true c37
 clear c37
 by_cases c38:0≤x5;{
 rw [if_pos c38] at H
 have c49:decide (0≤x5)=true:=decide_eq_true c38
 clear c38
 by_cases c39:0≤(rd t7 x5);{
 rw [if_pos c39] at H
 have c51:decide (0≤(rd t7 x5))=true:=decide_eq_true c39
 clear c39
 by_cases c40:(rd t7 x5)<(l1.length:Int);{
 rw [if_pos c40] at H
 have c53:decide ((rd t7 x5)<(l1.length:Int))=true:=decide_eq_true c40
 clear c40
 by_cases c41:x4.length<8796093022208;{
 rw [if_pos c41] at H
 have LMc0:=am c41
 clear c41
 obtain ⟨y0,hy0⟩:∃ y_:List (S36),y_=(x4++[(⟨(rd_T36 l1 (rd t7 x5)).f0,(rd_T36 l1 (rd t7 x5)).f1⟩:S36)]):=⟨_,rfl⟩
 replace H:(carrefourlaw11_CritMost.l2 k4 l1 t6 x2 x3 t7 y0 (wrap64 (x5+1)) a0 l3 l4 l5 l6 l7 a1 t2 t3 t4)=some r:=by first|(rw [hy0];with_reducible exact H)|(have H0:=(Option.bind_some _ _).symm.trans H;rw [hy0];with_reducible exact H0)|(have H0:=(Option.bind_some _ _).symm.trans H;with_reducible exact H0)|with_reducible exact H|(rw [hy0];exact H)|exact H
 have Ny0:=am hy0
 clear hy0
 have H':=am H
 clear H
 obtain ⟨Ao2,co2,eo2⟩:=Kd.R_slice HO5.out
 subst eo2
 have p3:0≤(x5:Int):=od_
 have q2:x5<(t7.length:Int):=od_
 obtain ⟨ad2,e2,hx2⟩:=Kd.at_int (Kd.R_reads' HO5.out).2.2 x5 p3 q2
 cases e2
 replace p3:=eq_true p3
 replace q2:=eq_true q2
 have p4:0≤((rd t7 x5):Int):=od_
 have q3:(rd t7 x5)<(l1.length:Int):=od_
 obtain ⟨ad3,e3,hx3,hx4⟩:=at_T36 HR1.out (rd t7 x5) p4 q3
 cases e3
 replace hx3:=hx_ HB hx3
 replace hx4:=hx_ HB hx4
 replace p4:=eq_true p4
 replace q3:=eq_true q3
 go_wp2_with (first|((with_reducible refine gate_builtin (b:=.append) (xs:=#[.tmp 71,.tmp 79]) rfl ?_);(try (refine gate_guard (by rfl) ?_;dsimp only));at_builtin;refine Kd.R_append k36 (w0:=w) w.heap.size rfl (.tmp 71) (.tmp 79) 29 36 (.agg #[(.int .i64 0),(.int .i64 0)]) 16 rfl Tryd.underlying29 info36 rfl (by decide) (by omega) u12 x4 (⟨(rd_T36 l1 (rd t7 x5)).f0,(rd_T36 l1 (rd t7 x5)).f1⟩:S36) [.int .i64 ((rd_T36 l1 (rd t7 x5)).f0),.int .i64 ((rd_T36 l1 (rd t7 x5)).f1)] (fun _=>True) (fun _=>False) rfl rfl ?aP (fun _ hk=>hk.elim) ?aF ?aO ?aB ?aS ?aL ?_;(case aP=>exact k36_mkM _ _ _ (⟨(rd_T36 l1 (rd t7 x5)).f0,(rd_T36 l1 (rd t7 x5)).f1⟩:S36));(case aB=>exact (bf HB));(case aF=>exact (fun _ _=>trivial));(case aO=>exact (Rt_ HO6.out));(case aS=>exact (below_size (bf HB)));(case aL=>have:=LMc0.out;omega);intro v8 w43 ho hb hg hat;rw [← Ny0.out] at ho;have n0:=am (Kd.N_afterv (ok:=(fun k_=>some k_≠(.slice (some ad2) t7.length co2:Value).ownBlock∧some k_≠(.slice Ao0 t4.length co0:Value).ownBlock∧k_≠gb0∧k_≠gb1)) (Nt_ (Kd.N_mono HO2.out (fun _ hk=>⟨⟨hk.1,⟨hk.2.2.1,⟨hk.2.2.2.1,hk.2.2.2.2⟩⟩⟩,hk.2.1⟩))) hg hat);have n1:=am (Kd.R_over' (Rt_ HO5.out) (Kd.R_typed (Rt_ HO6.out)) (by decide) hg);have n2:=am (Kd.R_over' (Rt_ HO3.out) (Kd.R_typed (Rt_ HO6.out)) (by decide) hg);have n3:=am (blk_grown (g:=gb0) (o:=.cells #[.string a0,.slice A0 l3.length c0,.slice A2 l4.length c4,.slice A3 l5.length c10,.slice A4 l6.length c11,.slice A6 l7.length c16,.int .i64 a1] 28 (0,0)) (bx BK0) hg (Kd.R_ne HO6.out BK0.out (by decide)));have n4:=am (blk_grown (g:=gb1) (o:=.cells #[.int .i64 t2,.int .i64 t3,.slice Ao0 t4.length co0] 39 (0,0)) (bx BK1) hg (Kd.R_ne HO6.out BK1.out (by decide)));have n5:=am (hb);have n6:=am (ho);clear HO2;clear HO5;clear HO3;clear BK0;clear BK1;clear HB;clear HO6;have HO2:=n0;have HO5:=n1;have HO3:=n2;have BK0:=n3;have BK1:=n4;have HB:=n5;have HO7:=n6;clear n0 n1 n2 n3 n4 n5 n6;clear ho hb hg hat))
 go_roundg k4
 case measure=>have:=HJ2.out;have:=HK2.out;have:=HK3.out;have:=HK4.out;omega
 case rel=>exact ⟨(y0),(wrap64 (x5+1)),(aq),H',⟨by have:=HJ2.out;have:=HK2.out;have:=HK3.out;have:=HK4.out;omega⟩,⟨Nt_ (Kd.N_mono HO2.out (fun _ hk=>⟨hk.1.1,⟨hk.2,⟨hk.1.2.1,⟨hk.1.2.2.1,hk.1.2.2.2⟩⟩⟩⟩))⟩,⟨Rt_ HO5.out⟩,⟨Rt_ HO7.out⟩,⟨Rt_ HO3.out⟩,bu_ BK0,bu_ BK1,⟨bf HB⟩⟩};{
 rw [if_neg c41] at H
 exact absurd H (by simp)}};{
 rw [if_neg c40] at H
 exact absurd H (by simp)}};{
 rw [if_neg c39] at H
 exact absurd H (by simp)}};{
 rw [if_neg c38] at H
 exact absurd H (by simp)}};{
 rw [if_neg c37] at H
 have c46:decide (x5<(t7.length:Int))=false:=decide_eq_false c37
 clear c37
 replace H:=bi_ H;obtain ⟨⟨t8,t9,t10⟩,A44,H⟩:=H
 (try dsimp only at H)
 by_cases c45:t10=0;{
 rw [if_pos c45] at H
 have c56:(t10==0)=true:=beq_iff_eq.mpr c45
 have c57:(t10 != 0)=false:=bne_eq_false_iff_eq.mpr c45
 clear c45
 replace H:=bi_ H;obtain ⟨t11,A46,H⟩:=H
 (try dsimp only at H)
 by_cases c47:t11>0;{
 rw [if_pos c47] at H
 have c60:decide (0<t11)=true:=decide_eq_true c47
 clear c47
 obtain rfl:=Option.some.inj H
 obtain ⟨Ao3,co3,eo3⟩:=Kd.R_slice HO5.out
 subst eo3
 obtain ⟨Ao4,co4,eo4⟩:=Kd.R_slice HO6.out
 subst eo4
 go_wp2_with (first|((with_reducible refine gc 10 rfl ?_);refine gm_ (some 83) rfl rfl Tryd.func10 (carrefourref02_Sum.calls _ _ _ _ _ _ _ _ ?side1 ?side2 A44.out) ag ?_;(case side1=>repeat (first|exact (Kd.R_reads' HO6.out).2.2|(with_reducible refine Kd.C_alloc ?_ _)|(with_reducible refine Kd.C_drewN ?_ _)|(with_reducible refine Kd.C_drew ?_)));(case side2=>exact (Kd.R_reads' HO6.out).2.1);intro w50 hb;replace HO2:=am (Kd.N_below (Nt_ HO2.out) hb);replace HO5:=am (Kd.R_below (Rt_ HO5.out) hb);replace HO6:=am (Kd.R_below (Rt_ HO6.out) hb);replace HO3:=am (Kd.R_below (Rt_ HO3.out) hb);replace BK0:=bb BK0 hb;replace BK1:=bb BK1 hb;replace HB:=bs HB hb;(try clear hb))|((with_reducible refine gate_dst (N:=14) rfl ?_);(try (refine gate_guard (by rfl) ?_;dsimp only));refine box_event ?hg (N:=14) ?hd (cs:=#[.int .i64 0,.int .i64 0]) (t:=36) ?hr ?_;(case hd=>rfl);(case hg=>rfl);(case hr=>first|(go_simp;done)|(go_simp;rfl));intro gb2 hg w51 hbox hb;have BK2:=am (hbox);have GE2:=bz HB hg;have ⟨NB2,NB3⟩:=nb BK0 hg;have ⟨NB4,NB5⟩:=nb BK1 hg;replace HO2:=am (Kd.N_below (Kd.N_elderB (Nt_ HO2.out) gb2 (Nat.le_of_eq hg.symm)) hb);replace HO5:=am (Kd.R_below (Rt_ HO5.out) hb);replace HO6:=am (Kd.R_below (Kd.R_elderB (Rt_ HO6.out) gb2 (Nat.le_of_eq hg.symm)) hb);replace HO3:=am (Kd.R_below (Rt_ HO3.out) hb);replace BK0:=bb BK0 hb;replace BK1:=bb BK1 hb;replace HB:=bs HB hb;clear hb hg;have hnb1:=nn NB3;have hnb2:=nn NB5;have hcz6:=X.k2 BK2;have hnb3:=nn NB1;have hcz8:=X.k3 BK1)|((with_reducible refine gc 11 rfl ?_);refine gm_ (some 91) rfl rfl Tryd.func11 (carrefourref02_Cmp.calls _ _ _ _ _ _ _ A46.out) ag ?_;intro w57 hb;replace HO2:=am (Kd.N_below (Nt_ (Kd.N_mono (Kd.N_far (p:=⟨gb2,1,none⟩) (Kd.N_far (p:=⟨gb2,0,none⟩) (Kd.N_mono HO2.out (fun k_ hk=>(⟨hk,hk.2⟩:_∧k_≠gb2))) (fun _ hk=>hk.2) (.int .i64 t8)) (fun _ hk=>hk.2) (.int .i64 t9)) (fun _ h_=>h_.1))) hb);replace HO5:=am (Kd.R_below (Rt_ (Kd.R_mono (Kd.R_far (p:=⟨gb2,1,none⟩) (Kd.R_far (p:=⟨gb2,0,none⟩) (Kd.R_types HO5.out BK2.out (by decide)) (fun _ hk=>hk.2) (.int .i64 t8)) (fun _ hk=>hk.2) (.int .i64 t9)) (fun _ h_=>h_.1))) hb);replace HO6:=am (Kd.R_below (Rt_ (Kd.R_mono (Kd.R_far (p:=⟨gb2,1,none⟩) (Kd.R_far (p:=⟨gb2,0,none⟩) (Kd.R_mono HO6.out (fun k_ hk=>(⟨hk,hk.2⟩:_∧k_≠gb2))) (fun _ hk=>hk.2) (.int .i64 t8)) (fun _ hk=>hk.2) (.int .i64 t9)) (fun _ h_=>h_.1))) hb);replace HO3:=am (Kd.R_below (Rt_ (Kd.R_mono (Kd.R_far (p:=⟨gb2,1,none⟩) (Kd.R_far (p:=⟨gb2,0,none⟩) (Kd.R_types HO3.out BK2.out (by decide)) (fun _ hk=>hk.2) (.int .i64 t8)) (fun _ hk=>hk.2) (.int .i64 t9)) (fun _ h_=>h_.1))) hb);replace BK0:=bb BK0 hb;replace BK1:=bb BK1 hb;replace BK2:=bp_ #[.int .i64 t8,.int .i64 t9] BK2 hb;replace HB:=bs HB hb;(try clear hb)))
 go_ret
 exact ⟨ae,bf HB⟩};{
 rw [if_neg c47] at H
 have c60:decide (0<t11)=false:=decide_eq_false c47
 clear c47
 by_cases c58:x2=true;{
 subst c58
 have H1:(carrefourlaw11_CritMost.l1 k4 l1 t6 true (wrap64 (x3+1)) a0 l3 l4 l5 l6 l7 a1 t2 t3 t4)=some r:=by rw [if_pos rfl] at H;exact H
 clear H
 have H:=H1
 clear H1
 have H':=am H
 clear H
 obtain ⟨Ao5,co5,eo5⟩:=Kd.R_slice HO5.out
 subst eo5
 obtain ⟨Ao6,co6,eo6⟩:=Kd.R_slice HO6.out
 subst eo6
 go_wp2_with (first|((with_reducible refine gc 10 rfl ?_);refine gm_ (some 83) rfl rfl Tryd.func10 (carrefourref02_Sum.calls _ _ _ _ _ _ _ _ ?side1 ?side2 A44.out) ag ?_;(case side1=>repeat (first|exact (Kd.R_reads' HO6.out).2.2|(with_reducible refine Kd.C_alloc ?_ _)|(with_reducible refine Kd.C_drewN ?_ _)|(with_reducible refine Kd.C_drew ?_)));(case side2=>exact (Kd.R_reads' HO6.out).2.1);intro w61 hb;replace HO2:=am (Kd.N_below (Nt_ HO2.out) hb);replace HO5:=am (Kd.R_below (Rt_ HO5.out) hb);replace HO6:=am (Kd.R_below (Rt_ HO6.out) hb);replace HO3:=am (Kd.R_below (Rt_ HO3.out) hb);replace BK0:=bb BK0 hb;replace BK1:=bb BK1 hb;replace HB:=bs HB hb;(try clear hb))|((with_reducible refine gate_dst (N:=14) rfl ?_);(try (refine gate_guard (by rfl) ?_;dsimp only));refine box_event ?hg (N:=14) ?hd (cs:=#[.int .i64 0,.int .i64 0]) (t:=36) ?hr ?_;(case hd=>rfl);(case hg=>rfl);(case hr=>first|(go_simp;done)|(go_simp;rfl));intro gb2 hg w62 hbox hb;have BK2:=am (hbox);have GE2:=bz HB hg;have ⟨NB2,NB3⟩:=nb BK0 hg;have ⟨NB4,NB5⟩:=nb BK1 hg;replace HO2:=am (Kd.N_below (Kd.N_elderB (Nt_ HO2.out) gb2 (Nat.le_of_eq hg.symm)) hb);replace HO5:=am (Kd.R_below (Rt_ HO5.out) hb);replace HO6:=am (Kd.R_below (Kd.R_elderB (Rt_ HO6.out) gb2 (Nat.le_of_eq hg.symm)) hb);replace HO3:=am (Kd.R_below (Rt_ HO3.out) hb);replace BK0:=bb BK0 hb;replace BK1:=bb BK1 hb;replace HB:=bs HB hb;clear hb hg;have hnb4:=nn NB3;have hnb5:=nn NB5;have hcz65:=X.k2 BK2;have hnb6:=nn NB1;have hcz67:=X.k3 BK1)|((with_reducible refine gc 11 rfl ?_);refine gm_ (some 91) rfl rfl Tryd.func11 (carrefourref02_Cmp.calls _ _ _ _ _ _ _ A46.out) ag ?_;intro w68 hb;replace HO2:=am (Kd.N_below (Nt_ (Kd.N_mono (Kd.N_far (p:=⟨gb2,1,none⟩) (Kd.N_far (p:=⟨gb2,0,none⟩) (Kd.N_mono HO2.out (fun k_ hk=>(⟨hk,hk.2⟩:_∧k_≠gb2))) (fun _ hk=>hk.2) (.int .i64 t8)) (fun _ hk=>hk.2) (.int .i64 t9)) (fun _ h_=>h_.1))) hb);replace HO5:=am (Kd.R_below (Rt_ (Kd.R_mono (Kd.R_far (p:=⟨gb2,1,none⟩) (Kd.R_far (p:=⟨gb2,0,none⟩) (Kd.R_types HO5.out BK2.out (by decide)) (fun _ hk=>hk.2) (.int .i64 t8)) (fun _ hk=>hk.2) (.int .i64 t9)) (fun _ h_=>h_.1))) hb);replace HO6:=am (Kd.R_below (Rt_ (Kd.R_mono (Kd.R_far (p:=⟨gb2,1,none⟩) (Kd.R_far (p:=⟨gb2,0,none⟩) (Kd.R_mono HO6.out (fun k_ hk=>(⟨hk,hk.2⟩:_∧k_≠gb2))) (fun _ hk=>hk.2) (.int .i64 t8)) (fun _ hk=>hk.2) (.int .i64 t9)) (fun _ h_=>h_.1))) hb);replace HO3:=am (Kd.R_below (Rt_ (Kd.R_mono (Kd.R_far (p:=⟨gb2,1,none⟩) (Kd.R_far (p:=⟨gb2,0,none⟩) (Kd.R_types HO3.out BK2.out (by decide)) (fun _ hk=>hk.2) (.int .i64 t8)) (fun _ hk=>hk.2) (.int .i64 t9)) (fun _ h_=>h_.1))) hb);replace BK0:=bb BK0 hb;replace BK1:=bb BK1 hb;replace BK2:=bp_ #[.int .i64 t8,.int .i64 t9] BK2 hb;replace HB:=bs HB hb;(try clear hb)))
 go_roundg k4
 case measure=>have:=HJ2.out;have:=HK2.out;have:=HK3.out;have:=HK4.out;omega
 case rel=>exact ⟨(true),(wrap64 (x3+1)),(aq),(aq),H',⟨by have:=HJ2.out;have:=HK2.out;have:=HK3.out;have:=HK4.out;omega⟩,⟨Nt_ (Kd.N_mono HO2.out (fun _ hk=>⟨hk.1.2.2.1,⟨hk.1.2.2.2.1,hk.1.2.2.2.2⟩⟩))⟩,⟨Rt_ (Kd.R_mono HO3.out (fun _ hk=>trivial))⟩,bu_ BK0,bu_ BK1,⟨bf HB⟩⟩};{
 replace c58:=Bool.eq_false_iff.mpr c58
 subst c58
 have H1:(carrefourlaw11_CritMost.l1 k4 l1 t6 (t8==t2&&(t9==t3)) (wrap64 (x3+1)) a0 l3 l4 l5 l6 l7 a1 t2 t3 t4)=some r:=by rw [if_neg (show ¬ (false=true) by decide)] at H;exact H
 clear H
 have H:=H1
 clear H1
 have H':=am H
 clear H
 obtain ⟨Ao7,co7,eo7⟩:=Kd.R_slice HO5.out
 subst eo7
 obtain ⟨Ao8,co8,eo8⟩:=Kd.R_slice HO6.out
 subst eo8
 go_wp2_with (first|((with_reducible refine gc 10 rfl ?_);refine gm_ (some 83) rfl rfl Tryd.func10 (carrefourref02_Sum.calls _ _ _ _ _ _ _ _ ?side1 ?side2 A44.out) ag ?_;(case side1=>repeat (first|exact (Kd.R_reads' HO6.out).2.2|(with_reducible refine Kd.C_alloc ?_ _)|(with_reducible refine Kd.C_drewN ?_ _)|(with_reducible refine Kd.C_drew ?_)));(case side2=>exact (Kd.R_reads' HO6.out).2.1);intro w71 hb;replace HO2:=am (Kd.N_below (Nt_ HO2.out) hb);replace HO5:=am (Kd.R_below (Rt_ HO5.out) hb);replace HO6:=am (Kd.R_below (Rt_ HO6.out) hb);replace HO3:=am (Kd.R_below (Rt_ HO3.out) hb);replace BK0:=bb BK0 hb;replace BK1:=bb BK1 hb;replace HB:=bs HB hb;(try clear hb))|((with_reducible refine gate_dst (N:=14) rfl ?_);(try (refine gate_guard (by rfl) ?_;dsimp only));refine box_event ?hg (N:=14) ?hd (cs:=#[.int .i64 0,.int .i64 0]) (t:=36) ?hr ?_;(case hd=>rfl);(case hg=>rfl);(case hr=>first|(go_simp;done)|(go_simp;rfl));intro gb2 hg w72 hbox hb;have BK2:=am (hbox);have GE2:=bz HB hg;have ⟨NB2,NB3⟩:=nb BK0 hg;have ⟨NB4,NB5⟩:=nb BK1 hg;replace HO2:=am (Kd.N_below (Kd.N_elderB (Nt_ HO2.out) gb2 (Nat.le_of_eq hg.symm)) hb);replace HO5:=am (Kd.R_below (Rt_ HO5.out) hb);replace HO6:=am (Kd.R_below (Kd.R_elderB (Rt_ HO6.out) gb2 (Nat.le_of_eq hg.symm)) hb);replace HO3:=am (Kd.R_below (Rt_ HO3.out) hb);replace BK0:=bb BK0 hb;replace BK1:=bb BK1 hb;replace HB:=bs HB hb;clear hb hg;have hnb7:=nn NB3;have hnb8:=nn NB5;have hcz75:=X.k2 BK2;have hnb9:=nn NB1;have hcz77:=X.k3 BK1)|((with_reducible refine gc 11 rfl ?_);refine gm_ (some 91) rfl rfl Tryd.func11 (carrefourref02_Cmp.calls _ _ _ _ _ _ _ A46.out) ag ?_;intro w78 hb;replace HO2:=am (Kd.N_below (Nt_ (Kd.N_mono (Kd.N_far (p:=⟨gb2,1,none⟩) (Kd.N_far (p:=⟨gb2,0,none⟩) (Kd.N_mono HO2.out (fun k_ hk=>(⟨hk,hk.2⟩:_∧k_≠gb2))) (fun _ hk=>hk.2) (.int .i64 t8)) (fun _ hk=>hk.2) (.int .i64 t9)) (fun _ h_=>h_.1))) hb);replace HO5:=am (Kd.R_below (Rt_ (Kd.R_mono (Kd.R_far (p:=⟨gb2,1,none⟩) (Kd.R_far (p:=⟨gb2,0,none⟩) (Kd.R_types HO5.out BK2.out (by decide)) (fun _ hk=>hk.2) (.int .i64 t8)) (fun _ hk=>hk.2) (.int .i64 t9)) (fun _ h_=>h_.1))) hb);replace HO6:=am (Kd.R_below (Rt_ (Kd.R_mono (Kd.R_far (p:=⟨gb2,1,none⟩) (Kd.R_far (p:=⟨gb2,0,none⟩) (Kd.R_mono HO6.out (fun k_ hk=>(⟨hk,hk.2⟩:_∧k_≠gb2))) (fun _ hk=>hk.2) (.int .i64 t8)) (fun _ hk=>hk.2) (.int .i64 t9)) (fun _ h_=>h_.1))) hb);replace HO3:=am (Kd.R_below (Rt_ (Kd.R_mono (Kd.R_far (p:=⟨gb2,1,none⟩) (Kd.R_far (p:=⟨gb2,0,none⟩) (Kd.R_types HO3.out BK2.out (by decide)) (fun _ hk=>hk.2) (.int .i64 t8)) (fun _ hk=>hk.2) (.int .i64 t9)) (fun _ h_=>h_.1))) hb);replace BK0:=bb BK0 hb;replace BK1:=bb BK1 hb;replace BK2:=bp_ #[.int .i64 t8,.int .i64 t9] BK2 hb;replace HB:=bs HB hb;(try clear hb);have hcz79:=X.k2 BK2;have hcz80:=X.k3 BK1))
 go_roundg k4
 case measure=>have:=HJ2.out;have:=HK2.out;have:=HK3.out;have:=HK4.out;omega
 case rel=>exact ⟨((t8==t2&&(t9==t3))),(wrap64 (x3+1)),(aq),(aq),H',⟨by have:=HJ2.out;have:=HK2.out;have:=HK3.out;have:=HK4.out;omega⟩,⟨Nt_ (Kd.N_mono HO2.out (fun _ hk=>⟨hk.1.2.2.1,⟨hk.1.2.2.2.1,hk.1.2.2.2.2⟩⟩))⟩,⟨Rt_ (Kd.R_mono HO3.out (fun _ hk=>trivial))⟩,bu_ BK0,bu_ BK1,⟨bf HB⟩⟩}}};{
 rw [if_neg c45] at H
 have c56:(t10==0)=false:=beq_eq_false_iff_ne.mpr c45
 have c57:(t10 != 0)=true:=bne_iff_ne.mpr c45
 have H':=am H
 clear H
 obtain ⟨Ao9,co9,eo9⟩:=Kd.R_slice HO5.out
 subst eo9
 obtain ⟨Ao82,co82,eo82⟩:=Kd.R_slice HO6.out
 subst eo82
 go_wp2_with (first|((with_reducible refine gc 10 rfl ?_);refine gm_ (some 83) rfl rfl Tryd.func10 (carrefourref02_Sum.calls _ _ _ _ _ _ _ _ ?side1 ?side2 A44.out) ag ?_;(case side1=>repeat (first|exact (Kd.R_reads' HO6.out).2.2|(with_reducible refine Kd.C_alloc ?_ _)|(with_reducible refine Kd.C_drewN ?_ _)|(with_reducible refine Kd.C_drew ?_)));(case side2=>exact (Kd.R_reads' HO6.out).2.1);intro w83 hb;replace HO2:=am (Kd.N_below (Nt_ HO2.out) hb);replace HO5:=am (Kd.R_below (Rt_ HO5.out) hb);replace HO6:=am (Kd.R_below (Rt_ HO6.out) hb);replace HO3:=am (Kd.R_below (Rt_ HO3.out) hb);replace BK0:=bb BK0 hb;replace BK1:=bb BK1 hb;replace HB:=bs HB hb;(try clear hb))|((with_reducible refine gate_dst (N:=14) rfl ?_);(try (refine gate_guard (by rfl) ?_;dsimp only));refine box_event ?hg (N:=14) ?hd (cs:=#[.int .i64 0,.int .i64 0]) (t:=36) ?hr ?_;(case hd=>rfl);(case hg=>rfl);(case hr=>first|(go_simp;done)|(go_simp;rfl));intro gb2 hg w84 hbox hb;have BK2:=am (hbox);have GE2:=bz HB hg;have ⟨NB2,NB3⟩:=nb BK0 hg;have ⟨NB4,NB5⟩:=nb BK1 hg;replace HO2:=am (Kd.N_below (Kd.N_elderB (Nt_ HO2.out) gb2 (Nat.le_of_eq hg.symm)) hb);replace HO5:=am (Kd.R_below (Rt_ HO5.out) hb);replace HO6:=am (Kd.R_below (Kd.R_elderB (Rt_ HO6.out) gb2 (Nat.le_of_eq hg.symm)) hb);replace HO3:=am (Kd.R_below (Rt_ HO3.out) hb);replace BK0:=bb BK0 hb;replace BK1:=bb BK1 hb;replace HB:=bs HB hb;clear hb hg;have hnb85:=nn NB3;have hnb86:=nn NB5;have hcz87:=X.k2 BK2))
 go_roundg k4
 case measure=>have:=HJ2.out;have:=HK2.out;have:=HK3.out;have:=HK4.out;omega
 case rel=>exact ⟨(true),(wrap64 (x3+1)),(aq),(aq),H',⟨by have:=HJ2.out;have:=HK2.out;have:=HK3.out;have:=HK4.out;omega⟩,⟨Nt_ (Kd.N_mono (Kd.N_far (p:=⟨gb2,1,none⟩) (Kd.N_far (p:=⟨gb2,0,none⟩) (Kd.N_mono HO2.out (fun k_ hk=>(⟨hk,hk.2⟩:_∧k_≠gb2))) (fun _ hk=>hk.2) (.int .i64 t8)) (fun _ hk=>hk.2) (.int .i64 t9)) (fun _ hk=>⟨hk.1.1.2.2.1,⟨hk.1.1.2.2.2.1,hk.1.1.2.2.2.2⟩⟩))⟩,⟨Rt_ (Kd.R_mono (Kd.R_far (p:=⟨gb2,1,none⟩) (Kd.R_far (p:=⟨gb2,0,none⟩) (Kd.R_types HO3.out BK2.out (by decide)) (fun _ hk=>hk.2) (.int .i64 t8)) (fun _ hk=>hk.2) (.int .i64 t9)) (fun _ hk=>trivial))⟩,bu_ BK0,bu_ BK1,⟨bf HB⟩⟩}}}}};{
 rw [if_neg c32] at H
 exact absurd H (by simp)}};{
 rw [if_neg c31] at H
 have c35:decide (x3<(t6.length:Int))=false:=decide_eq_false c31
 clear c31
 by_cases c88:x2=true;{
 subst c88
 have H1:((carrefourlaw11_awake.f k3).bind fun t12=>(some t12))=some r:=by rw [if_pos rfl] at H;exact H
 clear H
 have H:=H1
 clear H1
 replace H:=bi_ H;obtain ⟨t12,A89,H⟩:=H
 (try dsimp only at H)
 obtain rfl:=Option.some.inj H
 obtain ⟨Ao90,co90,eo90⟩:=Kd.N_slice HO2.out
 subst eo90
 go_wp2_with (first|(go_at_call 6;(with_reducible refine (carrefourlaw11_awake.calls _ _ _ A89.out (tt GT)).mono ?_);rintro e w91 ⟨rfl,hb⟩;replace HO2:=am (Kd.N_below (Nt_ HO2.out) hb);replace HO3:=am (Kd.R_below (Rt_ HO3.out) hb);replace BK0:=bb BK0 hb;replace HB:=bs HB hb;(try clear hb)))
 go_ret
 exact ⟨ae,bf HB⟩};{
 replace c88:=Bool.eq_false_iff.mpr c88
 subst c88
 have H1:(some false)=some r:=by rw [if_neg (show ¬ (false=true) by decide)] at H;exact H
 clear H
 have H:=H1
 clear H1
 obtain rfl:=Option.some.inj H
 obtain ⟨Ao92,co92,eo92⟩:=Kd.N_slice HO2.out
 subst eo92
 go_wp2
 go_ret
 exact ⟨ae,bf HB⟩}}}}};{
 rw [if_neg c21] at H
 have c29:(t5==0)=false:=beq_eq_false_iff_ne.mpr c21
 have c30:(t5 != 0)=true:=bne_iff_ne.mpr c21
 replace H:=bi_ H;obtain ⟨t13,A93,H⟩:=H
 (try dsimp only at H)
 obtain rfl:=Option.some.inj H
 have hcz94:=X.k7 BK0
 go_wp2_with (first|((with_reducible refine gc 7 rfl ?_);refine gl_ (some 45) rfl rfl Tryd.func7 ((crit_Sum.calls _ _ _ _ _ _ _ _ _ _ _ _ _ _ _ _ _ _ _ _ _ _ _ _ _ _ ?side1 ?side2 ?side3 ?side4 ?side5 ?side6 ?side7 ?side8 ?side9 ?side10 ?side11 ?side12 A9.out (tt GT)).mono ?_) ag;(case side1=>repeat (first|exact (Kd.C_below HR0.out HB.out)|(with_reducible refine Kd.C_alloc ?_ _)|(with_reducible refine Kd.C_drewN ?_ _)|(with_reducible refine Kd.C_drew ?_)));(case side2=>exact HC0.out);(case side3=>repeat (first|exact (Kd.C_below HR2.out HB.out)|(with_reducible refine Kd.C_alloc ?_ _)|(with_reducible refine Kd.C_drewN ?_ _)|(with_reducible refine Kd.C_drew ?_)));(case side4=>exact HC2.out);(case side5=>repeat (first|exact (Kd.C_below HR3.out HB.out)|(with_reducible refine Kd.C_alloc ?_ _)|(with_reducible refine Kd.C_drewN ?_ _)|(with_reducible refine Kd.C_drew ?_)));(case side6=>exact HC4.out);(case side7=>repeat (first|exact (Kd.C_below HR4.out HB.out)|(with_reducible refine Kd.C_alloc ?_ _)|(with_reducible refine Kd.C_drewN ?_ _)|(with_reducible refine Kd.C_drew ?_)));(case side8=>exact HC5.out);(case side9=>repeat (first|exact (Kd.C_below HR5.out HB.out)|(with_reducible refine Kd.C_alloc ?_ _)|(with_reducible refine Kd.C_drewN ?_ _)|(with_reducible refine Kd.C_drew ?_)));(case side10=>exact HC6.out);(case side11=>repeat (first|exact (Kd.C_below HR1.out HB.out)|(with_reducible refine Kd.C_alloc ?_ _)|(with_reducible refine Kd.C_drewN ?_ _)|(with_reducible refine Kd.C_drew ?_)));(case side12=>exact HC1.out);rintro e w95 ⟨v1,rfl,ho0,hb⟩;refine ⟨_,rfl,?_⟩;have HO0:=am (Kd.R_lower ho0 (below_size (bf HB)));replace BK0:=bb BK0 hb;replace HB:=bs HB hb;(try clear hb);(try clear ho0))|((with_reducible refine gate_dst (N:=6) rfl ?_);(try (refine gate_guard (by rfl) ?_;dsimp only));refine box_event ?hg (N:=6) ?hd (cs:=#[.int .i64 0,.int .i64 0,.slice none 0 0]) (t:=39) ?hr ?_;(case hd=>rfl);(case hg=>rfl);(case hr=>first|(go_simp;done)|(go_simp;rfl));intro gb1 hg w96 hbox hb;have BK1:=am (hbox);have GE1:=bz HB hg;have ⟨NB0,NB1⟩:=nb BK0 hg;replace HO0:=rb HO0 hb;replace HB:=bs HB hb;clear hb hg;have hnb97:=nn NB1;have hcz98:=X.k3 BK1;obtain ⟨Ao99,co99,eo99⟩:=Kd.R_slice HO0.out;subst eo99)|((with_reducible refine gc 6 rfl ?_);refine gm_ (some 50) rfl rfl Tryd.func6 (carrefourlaw11_awake.calls _ _ _ A93.out (tt GT)) ag ?_;intro w29 hb;replace HO0:=am (Kd.R_below (Rt_ (Kd.R_mono (Kd.R_far (p:=⟨gb1,2,none⟩) (Kd.R_far (p:=⟨gb1,1,none⟩) (Kd.R_far (p:=⟨gb1,0,none⟩) (Kd.R_types HO0.out BK1.out (by decide)) (fun _ hk=>hk.2) (.int .i64 t2)) (fun _ hk=>hk.2) (.int .i64 t3)) (fun _ hk=>hk.2) (.slice Ao99 t4.length co99)) (fun _ h_=>h_.1))) hb);replace BK1:=bp_ #[.int .i64 t2,.int .i64 t3,.slice Ao99 t4.length co99] BK1 hb;replace HB:=bs HB hb;(try clear hb)))
 go_ret
 exact ⟨ae,bf HB⟩}}}}}}}
end Go.Proofs.YtenphnkiacfmiaaDoor.X
