/- Walks: each '.calls' says that the Go function comes to what its Lean function tells. Conditions: as each theorem's head says. -/
import Derived.Test.YtenphnkiacfmiaaDoorXD
import Derived.Test.YtenphnkiacfmiaaDoorX0
import Derived.Test.YtenphnkiacfmiaaDoorX14
import Derived.Test.YtenphnkiacfmiaaDoorX15
namespace Go.Proofs.YtenphnkiacfmiaaDoor.X
open Go.RowKit Go.Proofs.YtenphnkiacfmiaaDoorW.PrintWords Go.Proofs.YtenphnkiacfmiaaDoorW.PrintLast Go.Proofs.YtenphnkiacfmiaaDoorW.PrintMore
attribute [local go_sem] max2_int min2_int max_two min_two max_three min_three max_four min_four
set_option linter.unusedVariables false
set_option maxHeartbeats 8000000
set_option maxRecDepth 100000
set_option linter.unusedSimpArgs false
def crit_Sum.T19:Bool × List (List Nat × List Nat):=(true,[([],[]),([0],[0]),([],[]),([2],[2]),([1,3],[1,3]),([],[]),([],[]),([],[]),([6,7],[6,7]),([8],[8]),([9],[9]),([5,10,4],[5,10]),([0,1,2,3,4],[]),([12,4,11,0,1,2,3,4],[4,12]),([11,13,0,1,2,3,4,5,6,7,8,9,10,11,12,13],[5,11])])
def crit_Sum.B19:List Nat:=[0,1,0,4,15,0,0,0,192,448,960,2047,31,8191,16383]
theorem crit_Sum.tab19:rtab .any (opsOf Tryd.f7 19)=crit_Sum.T19:=by kernel_rfl
theorem crit_Sum.bits19:waitsOk crit_Sum.T19.2 crit_Sum.B19=true:=by kernel_rfl
theorem crit_Sum.calls (k:Nat) (a0:ByteArray) (A0:Option Addr) (c0:Nat) (l2:List (S96)) (A2:Option Addr) (c4:Nat) (l3:List (S98)) (A3:Option Addr) (c5:Nat) (l4:List (S61)) (A4:Option Addr) (c9:Nat) (l5:List (S33)) (A5:Option Addr) (c10:Nat) (l6:List (S100)) (a1:Int) (A1:Option Addr) (c1:Nat) (l1:List (S36)) (r1:Int) (r2:Int) (r3:List Int) (r4:Int) (w:World) (hr0:Kd.C k96 w A0 l2.length l2) (hc0:l2.length≤c0) (hr2:Kd.C k98 w A2 l3.length l3) (hc2:l3.length≤c4) (hr3:Kd.C k61 w A3 l4.length l4) (hc3:l4.length≤c5) (hr4:Kd.C k33 w A4 l5.length l5) (hc4:l5.length≤c9) (hr5:Kd.C k100 w A5 l6.length l6) (hc5:l6.length≤c10) (hr1:Kd.C k36 w A1 l1.length l1) (hc1:l1.length≤c1) (h:crit_Sum.f k a0 l2 l3 l4 l5 l6 a1 l1=some (r1,r2,r3,r4)) (hT:TabOK w) :
  Calls Tryd.prog 7 #[.agg #[.string a0,.slice A0 l2.length c0,.slice A2 l3.length c4,.slice A3 l4.length c5,.slice A4 l5.length c9,.slice A5 l6.length c10,.int .i64 a1],.slice A1 l1.length c1] w fun e w'=>∃ v0:Value,e=.returned (.tuple #[.agg #[.int .i64 r1,.int .i64 r2,v0],.int .i64 r4])∧Kd.R (Kd.int .i64) 3 w' w.heap.size (fun _=>True) v0 r3∧Below w.heap.size w w':=by
 have GT:=am hT
 clear hT
 have hu0:=Tryd.underlying28
 have hu1:=Tryd.underlying39
 have hu2:=Tryd.underlying33
 have hu3:=Tryd.underlying63
 have hu4:=Tryd.underlying36
 have HR0:=am hr0
 have HC0:=am hc0
 clear hr0 hc0
 have HR2:=am hr2
 have HC2:=am hc2
 clear hr2 hc2
 have HR3:=am hr3
 have HC4:=am hc3
 clear hr3 hc3
 have HR4:=am hr4
 have HC5:=am hc4
 clear hr4 hc4
 have HR5:=am hr5
 have HC6:=am hc5
 clear hr5 hc5
 have HR1:=am hr1
 have HC1:=am hc1
 clear hr1 hc1
 have HB:=am (Below.refl w.heap.size w)
 have H:(if (l1.length:Int)=(l4.length:Int) then ((api_Group_fn18.f l5).bind fun t0=>(crit_Sum.j0 k l1 t0 a0 l2 l3 l4 l5 l6 a1)) else (crit_Sum.j0 k l1 true a0 l2 l3 l4 l5 l6 a1))=some (r1,r2,r3,r4):=h
 clear h
 have HC3:=am H
 clear H
 go_enter Tryd.func7,Tryd.ntmps7
 go_upto_region 2 with (first|((with_reducible refine gd 2 rfl ?_);refine bx_ 2 28 #[.string a0,.slice A0 l2.length c0,.slice A2 l3.length c4,.slice A3 l4.length c5,.slice A4 l5.length c9,.slice A5 l6.length c10,.int .i64 a1] rfl rfl ?_;intro gb0 hg w4 BK0 hb;have GE0:=bz HB hg;replace HB:=bs HB hb;clear hb hg)|((with_reducible refine gd 4 rfl ?_);refine bx_ 4 39 #[.int .i64 0,.int .i64 0,.slice none 0 0] rfl rfl ?_;intro gb1 hg w5 BK1 hb;have GE1:=bz HB hg;have ⟨NB0,NB1⟩:=nb BK0 hg;replace BK0:=bb BK0 hb;replace HB:=bs HB hb;clear hb hg))
 (try simp only [Act.put,si,s0,s1])
 go_cut [30] (fun v2 wc=>∃ (kq:Nat) (x0:Bool),v2=.bool x0∧Aside0 (crit_Sum.j0 kq l1 x0 a0 l2 l3 l4 l5 l6 a1=some (r1,r2,r3,r4))∧Aside0 (kq≤k)∧Aside0 (wc.heap[gb0]?=some (.cells #[.string a0,(.slice A0 l2.length c0),(.slice A2 l3.length c4),(.slice A3 l4.length c5),(.slice A4 l5.length c9),(.slice A5 l6.length c10),.int .i64 a1] 28 (0,0)))∧Aside0 (wc.heap[gb1]?=some (.cells #[.int .i64 0,.int .i64 0,(.slice none 0 0)] 39 (0,0)))∧Aside0 (Below w.heap.size w wc))
 case first =>skip;{
 have H:=HC3.out
 clear HC3
 by_cases c6:(l1.length:Int)=(l4.length:Int);{
 rw [if_pos c6] at H
 have c12:((l1.length:Int)==(l4.length:Int))=true:=beq_iff_eq.mpr c6
 have c15:((l1.length:Int) != (l4.length:Int))=false:=bne_eq_false_iff_eq.mpr c6
 have c16:(l1.length==l4.length)=true:=by first|simpa using c6|(simp at c6 ⊢;omega)
 clear c6
 (first|rw [c12]|(simp only [i64_w,i32_w];rw [c12])|skip)
 replace H:=bi_ H;obtain ⟨t0,A7,H⟩:=H
 (try dsimp only at H)
 have H':=am H
 clear H
 have hnb8:=nn NB0
 have hcz9:=X.k7 BK0
 go_wp2_with (first|(go_at_call 19;(with_reducible refine (api_Group_fn18.calls _ _ _ _ _ ?side1 ?side2 A7.out).mono ?_);(case side1=>repeat (first|exact (Kd.C_below HR4.out HB.out)|(with_reducible refine Kd.C_alloc ?_ _)|(with_reducible refine Kd.C_drewN ?_ _)|(with_reducible refine Kd.C_drew ?_)));(case side2=>exact HC5.out);rintro e w2 ⟨rfl,hb⟩;replace BK0:=bb BK0 hb;replace BK1:=bb BK1 hb;replace HB:=bs HB hb;(try clear hb)))
 go_meet
 case rel=>exact ⟨_,(t0),(aq),H',⟨by first|omega|exact Nat.le_refl _⟩,bu_ BK0,bu_ BK1,⟨bf HB⟩⟩};{
 rw [if_neg c6] at H
 have c12:((l1.length:Int)==(l4.length:Int))=false:=beq_eq_false_iff_ne.mpr c6
 have c15:((l1.length:Int) != (l4.length:Int))=true:=bne_iff_ne.mpr c6
 have c16:(l1.length==l4.length)=false:=by first|simpa using c6|(simp at c6 ⊢;omega)
 (first|rw [c12]|(simp only [i64_w,i32_w];rw [c12])|skip)
 have H':=am H
 clear H
 have hnb0:=nn NB0
 have hcz0:=X.k7 BK0
 go_wp2
 go_meet
 case rel=>exact ⟨_,(true),(aq),H',⟨by first|omega|exact Nat.le_refl _⟩,bu_ BK0,bu_ BK1,⟨bf HB⟩⟩}}
 case rest =>skip;{
 clear HC3
 (try clear c1);(try clear p2);(try clear c6);(try clear c12);(try clear c15);(try clear c16);(try clear c7);(try clear c8);(try clear c11);(try clear hcz0);(try clear hcz9)
 obtain ⟨kq,x0,rfl,HA,HJ2,BK0,BK1,HB⟩:=hcut
 cases kq with
 | zero=>exact absurd HA.out (by simp [crit_Sum.j0])
 | succ kj2 =>skip;{
 have H:=HA.out
 clear HA
 simp only [crit_Sum.j0] at H
 by_cases c13:x0=true;{
 subst c13
 have H1:(some (0,0,([]:List Int),1))=some (r1,r2,r3,r4):=by rw [if_pos rfl] at H;exact H
 clear H
 have H:=H1
 clear H1
 simp only [Option.some.injEq,Prod.mk.injEq] at H
 obtain ⟨rfl,rfl,rfl,rfl⟩:=H
 have hnb1:=nn NB1
 have hcz1:=X.k3 BK1
 go_wp2
 refine bodyPost_ret (results_ct rfl _ _ gb1 39 #[.int .i64 0,.int .i64 0,.slice none 0 0] (0,0) _ rfl (br_ BK1) Tryd.underlying39 rfl (by kernel_rfl)) rfl ?_
 exact ⟨_,ae,by first|exact Kd.R_nil _ _ _ _ _|exact Kd.N_nil _ _ _ _ _|exact Kd.V_nil _ _ _ _ _|exact Kd.Q_nil _ _ _ _ _|exact Kd.S_nil _ _ _ _ _,bf HB⟩};{
 replace c13:=Bool.eq_false_iff.mpr c13
 subst c13
 have H1:(crit_Sum.l0 kj2 l1 ([]:List (S36)) l5 (l5.length:Int) 0 a0 l2 l3 l4 l5 l6 a1 0 0 ([]:List Int))=some (r1,r2,r3,r4):=by rw [if_neg (show ¬ (false=true) by decide)] at H;exact H
 clear H
 have H:=H1
 clear H1
 have H':=am H
 clear H
 go_wp2_with (first|((with_reducible refine gd 7 rfl ?_);refine bx_ 7 39 #[.int .i64 0,.int .i64 0,.slice none 0 0] rfl rfl ?_;intro gb2 hg w3 BK2 hb;have GE2:=bz HB hg;have ⟨NB2,NB3⟩:=nb BK0 hg;have ⟨NB4,NB5⟩:=nb BK1 hg;replace BK0:=bb BK0 hb;replace BK1:=bb BK1 hb;replace HB:=bs HB hb;clear hb hg;have hnb2:=nn NB0;have hnb3:=nn NB2;have hcz2:=X.k7 BK0))
 go_loopg [8,35] kj2 (fun kq v8 v3 w'=>∃ (x1:List (S36)) (x2:Int) (x3:Int) (x4:Int) (x5:List Int) (u374002:Value),v3=.int .i64 x2∧Aside0 (crit_Sum.l0 kq l1 x1 l5 (l5.length:Int) x2 a0 l2 l3 l4 l5 l6 a1 0 0 x5=some (r1,r2,r3,r4))∧Aside0 (kq≤kj2)∧Aside0 (Kd.R k36 36 w' w.heap.size (fun _=>True) v8 x1)∧Aside0 (Kd.R (Kd.int .i64) 3 w' w.heap.size (fun _=>True) u374002 x5)∧Aside0 (w'.heap[gb0]?=some (.cells #[.string a0,(.slice A0 l2.length c0),(.slice A2 l3.length c4),(.slice A3 l4.length c5),(.slice A4 l5.length c9),(.slice A5 l6.length c10),.int .i64 a1] 28 (0,0)))∧Aside0 (w'.heap[gb1]?=some (.cells #[.int .i64 x3,.int .i64 x4,(.slice none 0 0)] 39 (0,0)))∧Aside0 (w'.heap[gb2]?=some (.cells #[.int .i64 0,.int .i64 0,u374002] 39 (0,0)))∧Aside0 (Below w.heap.size w w'))
 case atStart=>exact ⟨(([]:List (S36))),(0),(0),(0),(([]:List Int)),(.slice none 0 0),(aq),H',⟨Nat.le_refl _⟩,⟨by first|exact Kd.R_nil _ _ _ _ _|exact Kd.N_nil _ _ _ _ _|exact Kd.V_nil _ _ _ _ _|exact Kd.Q_nil _ _ _ _ _|exact Kd.S_nil _ _ _ _ _⟩,⟨by first|exact Kd.R_nil _ _ _ _ _|exact Kd.N_nil _ _ _ _ _|exact Kd.V_nil _ _ _ _ _|exact Kd.Q_nil _ _ _ _ _|exact Kd.S_nil _ _ _ _ _⟩,bu_ BK0,bu_ BK1,bu_ BK2,⟨bf HB⟩⟩
 case round =>skip;{
 clear H'
 (try clear c1);(try clear p2);(try clear c6);(try clear c12);(try clear c15);(try clear c16);(try clear c7);(try clear c8);(try clear c11);(try clear c13);(try clear c14);(try clear c17);(try clear c18);(try clear hcz0);(try clear hcz1);(try clear hcz2);(try clear hcz9);(try clear p2)
 obtain ⟨x1,x2,x3,x4,x5,u374002,rfl,HA,HK2,HO0,HO1,BK0,BK1,BK2,HB⟩:=hrel
 cases gk with
 | zero=>exact absurd HA.out (by simp [crit_Sum.l0])
 | succ k2 =>skip;{
 have H:=HA.out
 clear HA
 simp only [crit_Sum.l0] at H
 by_cases c20:x2<(l5.length:Int);{
 rw [if_pos c20] at H
 have c36:decide (x2<(l5.length:Int))=true:=decide_eq_true c20
 clear c20
 by_cases c21:0≤x2;{
 rw [if_pos c21] at H
 have c40:decide (0≤x2)=true:=decide_eq_true c21
 clear c21
 by_cases c22:x2<(l5.length:Int);{
 rw [if_pos c22] at H
 have c42:decide (x2<(l5.length:Int))=true:=decide_eq_true c22
 clear c22
 by_cases c23:0≤(((rd_T33 l5 x2).f0).length:Int);{
 rw [if_pos c23] at H
 have c44:=eq_true c23
 have c45:decide (0≤(((rd_T33 l5 x2).f0).length:Int))=true:=decide_eq_true c23
 clear c23
 by_cases c24:((((rd_T33 l5 x2).f0).length:Int):Int).toNat≤17592186044416;{
 rw [if_pos c24] at H
 have c47:=eq_true c24
 have c48:decide (((((rd_T33 l5 x2).f0).length:Int):Int).toNat≤17592186044416)=true:=decide_eq_true c24
 clear c24
 obtain ⟨y0,hy0⟩:∃ y_:List (S36),y_=(List.replicate ((((rd_T33 l5 x2).f0).length:Int):Int).toNat z36):=⟨_,rfl⟩
 replace H:(crit_Sum.l1 k2 l1 x1 y0 l5 (l5.length:Int) x2 ((rd_T33 l5 x2).f0) (((rd_T33 l5 x2).f0).length:Int) 0 a0 l2 l3 l4 l5 l6 a1 0 0 x5)=some (r1,r2,r3,r4):=by first|(rw [hy0];with_reducible exact H)|(have H0:=(Option.bind_some _ _).symm.trans H;rw [hy0];with_reducible exact H0)|(have H0:=(Option.bind_some _ _).symm.trans H;with_reducible exact H0)|with_reducible exact H|(rw [hy0];exact H)|exact H
 have Ny0:=am hy0
 clear hy0
 have H':=am H
 clear H
 have p0:0≤(x2:Int):=od_
 have q0:x2<(l5.length:Int):=od_
 obtain ⟨ad0,A6,c49,e0,hx0,hl0,hi0⟩:=at_T33 HR4.out x2 p0 q0
 cases e0
 replace hx0:=hx_ HB hx0
 have HR6:=am hi0
 have HC7:=am hl0
 clear hi0 hl0
 replace p0:=eq_true p0
 replace q0:=eq_true q0
 go_wp2_with (first|((with_reducible refine gd 10 rfl ?_);refine bx_ 10 33 #[.slice none 0 0] rfl rfl ?_;intro gb3 hg w6 BK3 hb;have GE3:=bz HB hg;have ⟨NB6,NB7⟩:=nb BK0 hg;have ⟨NB8,NB9⟩:=nb BK1 hg;have ⟨NB10,NB11⟩:=nb BK2 hg;replace HO0:=am (Kd.R_below (Rt_ HO0.out) hb);replace HO1:=am (Kd.R_below (Rt_ HO1.out) hb);replace BK0:=bb BK0 hb;replace BK1:=bb BK1 hb;replace BK2:=bb BK2 hb;replace HB:=bs HB hb;clear hb hg;have hnb4:=nn NB7;have hnb5:=nn NB9;have hnb6:=nn NB11;have hcz3:=X.k1 BK3)|((with_reducible refine gate_dst (N:=42) rfl ?_);refine Kd.R_make k36 _ 36 rfl (N:=42) rfl 29 _ _ rfl (((rd_T33 l5 x2).f0).length:Int) rfl rfl Tryd.underlying29 (.agg #[(.int .i64 0),(.int .i64 0)]) 16 info36 rfl (by decide) (by omega) z36 (ok:=fun _=>True) (okp:=fun _=>True) (k36_mkM _ _ _ z36 ) (fun _ hk=>hk) trivial (od_) (Nat.le_trans (Nat.mul_le_mul_right _ (od_:(((rd_T33 l5 x2).f0).length:Int).toNat≤17592186044416)) (by omega)) (Below.refl _ _) (Nat.le_refl _) ?_;intro v4 w7 ho0 hb hg_ hnew_;clear hg_ hnew_;(first|rw [← Ny0.out] at ho0|(simp only [Int.reduceToNat] at ho0;rw [← Ny0.out] at ho0));have HO2:=am (Kd.R_lower (Kd.R_new' ho0 (Kd.R_lt (Rt_ (Kd.R_mono (Kd.R_far (p:=⟨gb3,0,none⟩) (Kd.R_types HO0.out BK3.out (by decide)) (fun _ hk=>hk.2) (.slice A6 ((rd_T33 l5 x2).f0).length c49)) (fun _ h_=>h_.1))))) (below_size (bf HB)));replace HO0:=am (Kd.R_elder' (Rt_ (Kd.R_mono (Kd.R_far (p:=⟨gb3,0,none⟩) (Kd.R_types HO0.out BK3.out (by decide)) (fun _ hk=>hk.2) (.slice A6 ((rd_T33 l5 x2).f0).length c49)) (fun _ h_=>h_.1))) (Kd.R_base ho0) hb);replace HO1:=am (Kd.R_below (Rt_ (Kd.R_mono (Kd.R_far (p:=⟨gb3,0,none⟩) (Kd.R_types HO1.out BK3.out (by decide)) (fun _ hk=>hk.2) (.slice A6 ((rd_T33 l5 x2).f0).length c49)) (fun _ h_=>h_.1))) hb);replace BK0:=bb BK0 hb;replace BK1:=bb BK1 hb;replace BK2:=bb BK2 hb;replace BK3:=bp_ #[.slice A6 ((rd_T33 l5 x2).f0).length c49] BK3 hb;replace HB:=bs HB hb;clear hb ho0;have hcz4:=X.k1 BK3))
 go_loopg [46] k2 (fun kq v5 w'=>∃ (x6:List (S36)) (x7:Int) (x8:Int) (x9:Int),v5=.int .i64 x7∧Aside0 (crit_Sum.l1 kq l1 x1 x6 l5 (l5.length:Int) x2 ((rd_T33 l5 x2).f0) (((rd_T33 l5 x2).f0).length:Int) x7 a0 l2 l3 l4 l5 l6 a1 0 0 x5=some (r1,r2,r3,r4))∧Aside0 (kq≤k2)∧Aside0 (Kd.R k36 36 w' w.heap.size (fun k_=>some k_≠(v4:Value).ownBlock) u8 x1)∧Aside0 (Kd.R k36 36 w' w.heap.size (fun k_=>some k_≠(u8:Value).ownBlock) v4 x6)∧Aside0 (Kd.R (Kd.int .i64) 3 w' w.heap.size (fun _=>True) u374002 x5)∧Aside0 (w'.heap[gb0]?=some (.cells #[.string a0,(.slice A0 l2.length c0),(.slice A2 l3.length c4),(.slice A3 l4.length c5),(.slice (some ad0) l5.length c9),(.slice A5 l6.length c10),.int .i64 a1] 28 (0,0)))∧Aside0 (w'.heap[gb1]?=some (.cells #[.int .i64 x8,.int .i64 x9,(.slice none 0 0)] 39 (0,0)))∧Aside0 (w'.heap[gb2]?=some (.cells #[.int .i64 0,.int .i64 0,u374002] 39 (0,0)))∧Aside0 (w'.heap[gb3]?=some (.cells #[(.slice A6 ((rd_T33 l5 x2).f0).length c49)] 33 (0,0)))∧Aside0 (Below w.heap.size w w'))
 case atStart=>exact ⟨(y0),(0),(x3),(x4),(aq),H',⟨Nat.le_refl _⟩,⟨Rt_ (Kd.R_mono HO0.out (fun _ hk=>hk.2))⟩,⟨Rt_ (Kd.R_mono HO2.out (fun _ hk=>hk.2))⟩,⟨Rt_ HO1.out⟩,bu_ BK0,bu_ BK1,bu_ BK2,bu_ BK3,⟨bf HB⟩⟩
 case round =>skip;{
 clear H'
 (try clear c1);(try clear c2);(try clear p2);(try clear c3);(try clear p3);(try clear q3);(try clear hx3);(try clear c6);(try clear c12);(try clear c15);(try clear c16);(try clear c7);(try clear c8);(try clear c11);(try clear c13);(try clear c14);(try clear c17);(try clear c18);(try clear c20);(try clear c36);(try clear c21);(try clear c40);(try clear c22);(try clear c42);(try clear c23);(try clear c44);(try clear c45);(try clear c24);(try clear c47);(try clear c48);(try clear c26);(try clear c27);(try clear c28);(try clear hcz0);(try clear hcz1);(try clear hcz2);(try clear hcz3);(try clear hcz4);(try clear hcz9);(try clear hx0);(try clear p2);(try clear p0);(try clear q0)
 obtain ⟨x6,x7,x8,x9,rfl,HA,HK3,HO0,HO3,HO1,BK0,BK1,BK2,BK3,HB⟩:=hrel
 cases gk with
 | zero=>exact absurd HA.out (by simp [crit_Sum.l1])
 | succ k3 =>skip;{
 have H:=HA.out
 clear HA
 simp only [crit_Sum.l1] at H
 by_cases c33:x7<(((rd_T33 l5 x2).f0).length:Int);{
 rw [if_pos c33] at H
 have c54:decide (x7<(((rd_T33 l5 x2).f0).length:Int))=true:=decide_eq_true c33
 clear c33
 by_cases c34:0≤x7;{
 rw [if_pos c34] at H
 have c56:decide (0≤x7)=true:=decide_eq_true c34
 clear c34
 by_cases c35:x7<(((rd_T33 l5 x2).f0).length:Int);{
 rw [if_pos c35] at H
 have c58:decide (x7<(((rd_T33 l5 x2).f0).length:Int))=true:=decide_eq_true c35
 clear c35
 replace H:=bi_ H;obtain ⟨⟨t1,t2,t3⟩,A8,H⟩:=H
 (try dsimp only at H)
 by_cases c37:t3=0;{
 rw [if_pos c37] at H
 have c60:(t3==0)=true:=beq_iff_eq.mpr c37
 have c61:(t3 != 0)=false:=bne_eq_false_iff_eq.mpr c37
 clear c37
 by_cases c38:x7<(x6.length:Int);{
 rw [if_pos c38] at H
 have c63:decide (x7<(x6.length:Int))=true:=decide_eq_true c38
 clear c38
 obtain ⟨y1,hy1⟩:∃ y_:List (S36),y_=(x6.set (x7:Int).toNat (⟨t1,t2⟩:S36)):=⟨_,rfl⟩
 replace H:(crit_Sum.l1 k3 l1 x1 y1 l5 (l5.length:Int) x2 ((rd_T33 l5 x2).f0) (((rd_T33 l5 x2).f0).length:Int) (wrap64 (x7+1)) a0 l2 l3 l4 l5 l6 a1 0 0 x5)=some (r1,r2,r3,r4):=by first|(rw [hy1];with_reducible exact H)|(have H0:=(Option.bind_some _ _).symm.trans H;rw [hy1];with_reducible exact H0)|(have H0:=(Option.bind_some _ _).symm.trans H;with_reducible exact H0)|with_reducible exact H|(rw [hy1];exact H)|exact H
 have Ny1:=am hy1
 clear hy1
 have H':=am H
 clear H
 have p1:0≤(x7:Int):=od_
 have q1:x7<(((rd_T33 l5 x2).f0).length:Int):=od_
 obtain ⟨ad1,A9,c64,e1,hx1,hx2,hl1,hi1⟩:=at_T63 HR6.out x7 p1 q1
 cases e1
 replace hx1:=hx_ HB hx1
 replace hx2:=hx_ HB hx2
 have HR7:=am hi1
 have HC8:=am hl1
 clear hi1 hl1
 replace p1:=eq_true p1
 replace q1:=eq_true q1
 go_wp2_with (first|((with_reducible refine gd 13 rfl ?_);refine bx_ 13 63 #[.bool false,.slice none 0 0] rfl rfl ?_;intro gb4 hg w8 BK4 hb;have GE4:=bz HB hg;have ⟨NB12,NB13⟩:=nb BK0 hg;have ⟨NB14,NB15⟩:=nb BK1 hg;have ⟨NB16,NB17⟩:=nb BK2 hg;have ⟨NB18,NB19⟩:=nb BK3 hg;replace HO0:=am (Kd.R_below (Rt_ HO0.out) hb);replace HO3:=am (Kd.R_below (Rt_ HO3.out) hb);replace HO1:=am (Kd.R_below (Rt_ HO1.out) hb);replace BK0:=bb BK0 hb;replace BK1:=bb BK1 hb;replace BK2:=bb BK2 hb;replace BK3:=bb BK3 hb;replace HB:=bs HB hb;clear hb hg;have hnb7:=nn NB13;have hnb9:=nn NB15;have hnb43:=nn NB17;have hnb44:=nn NB19;have hcz5:=X.k2 BK4;have hnb46:=nn NB0;have hnb47:=nn NB2;have hnb48:=nn NB6;have hcz6:=X.k7 BK0)|((with_reducible refine gc 20 rfl ?_);refine gm_ (some 55) rfl rfl Tryd.func20 (crit_ring.calls _ _ _ _ _ _ _ _ _ _ _ _ _ _ _ _ _ _ ((rd_T63 ((rd_T33 l5 x2).f0) x7).f0) _ _ ((rd_T63 ((rd_T33 l5 x2).f0) x7).f1) _ _ _ _ _ _ _ ?side1 ?side2 ?side3 ?side4 ?side5 ?side6 ?side7 ?side8 ?side9 ?side10 ?side11 ?side12 ?side13 ?side14 A8.out (tt GT)) ag ?_;(case side1=>exact Kd.C_below HR0.out (bf HB));(case side2=>exact HC0.out);(case side3=>exact Kd.C_below HR2.out (bf HB));(case side4=>exact HC2.out);(case side5=>exact Kd.C_below HR3.out (bf HB));(case side6=>exact HC4.out);(case side7=>exact Kd.C_below HR4.out (bf HB));(case side8=>exact HC5.out);(case side9=>exact Kd.C_below HR5.out (bf HB));(case side10=>exact HC6.out);(case side11=>exact Kd.C_below HR7.out (bf HB));(case side12=>exact HC8.out);(case side13=>exact Kd.C_below HR1.out (bf HB));(case side14=>exact HC1.out);intro w9 hb;replace HO0:=am (Kd.R_below (Rt_ (Kd.R_mono (Kd.R_far (p:=⟨gb4,1,none⟩) (Kd.R_far (p:=⟨gb4,0,none⟩) (Kd.R_types HO0.out BK4.out (by decide)) (fun _ hk=>hk.2) (.bool ((rd_T63 ((rd_T33 l5 x2).f0) x7).f0))) (fun _ hk=>hk.2) (.slice A9 ((rd_T63 ((rd_T33 l5 x2).f0) x7).f1).length c64)) (fun _ h_=>h_.1))) hb);replace HO3:=am (Kd.R_below (Rt_ (Kd.R_mono (Kd.R_far (p:=⟨gb4,1,none⟩) (Kd.R_far (p:=⟨gb4,0,none⟩) (Kd.R_types HO3.out BK4.out (by decide)) (fun _ hk=>hk.2) (.bool ((rd_T63 ((rd_T33 l5 x2).f0) x7).f0))) (fun _ hk=>hk.2) (.slice A9 ((rd_T63 ((rd_T33 l5 x2).f0) x7).f1).length c64)) (fun _ h_=>h_.1))) hb);replace HO1:=am (Kd.R_below (Rt_ (Kd.R_mono (Kd.R_far (p:=⟨gb4,1,none⟩) (Kd.R_far (p:=⟨gb4,0,none⟩) (Kd.R_types HO1.out BK4.out (by decide)) (fun _ hk=>hk.2) (.bool ((rd_T63 ((rd_T33 l5 x2).f0) x7).f0))) (fun _ hk=>hk.2) (.slice A9 ((rd_T63 ((rd_T33 l5 x2).f0) x7).f1).length c64)) (fun _ h_=>h_.1))) hb);replace BK0:=bb BK0 hb;replace BK1:=bb BK1 hb;replace BK2:=bb BK2 hb;replace BK3:=bb BK3 hb;replace BK4:=bp_ #[.bool ((rd_T63 ((rd_T33 l5 x2).f0) x7).f0),.slice A9 ((rd_T63 ((rd_T33 l5 x2).f0) x7).f1).length c64] BK4 hb;replace HB:=bs HB hb;(try clear hb))|((with_reducible refine gd 14 rfl ?_);refine bx_ 14 36 #[.int .i64 0,.int .i64 0] rfl rfl ?_;intro gb5 hg w51 BK5 hb;have GE5:=bz HB hg;have ⟨NB20,NB21⟩:=nb BK0 hg;have ⟨NB22,NB23⟩:=nb BK1 hg;have ⟨NB24,NB25⟩:=nb BK2 hg;have ⟨NB26,NB27⟩:=nb BK3 hg;have ⟨NB28,NB29⟩:=nb BK4 hg;replace HO0:=am (Kd.R_below (Kd.R_elderB (Rt_ HO0.out) gb5 (Nat.le_of_eq hg.symm)) hb);replace HO3:=am (Kd.R_below (Kd.R_elderB (Rt_ HO3.out) gb5 (Nat.le_of_eq hg.symm)) hb);replace HO1:=am (Kd.R_below (Rt_ HO1.out) hb);replace BK0:=bb BK0 hb;replace BK1:=bb BK1 hb;replace BK2:=bb BK2 hb;replace BK3:=bb BK3 hb;replace BK4:=bb BK4 hb;replace HB:=bs HB hb;clear hb hg;have hnb52:=nn NB21;have hnb53:=nn NB23;have hnb54:=nn NB25;have hnb55:=nn NB27;have hnb56:=nn NB29;have hcz7:=X.k2 BK5)|((with_reducible refine gate_store (t:=36) (p:=14) rfl ?_);refine store_event (t:=36) (p:=14) (v:=?vo_w58) (w1:=((w51.setCell ⟨gb5,0,none⟩ (.int .i64 t1)).setCell ⟨gb5,1,none⟩ (.int .i64 t2))) ?hg ?ho ?hn ?hr ?_;(case ho=>rfl);(case hg=>rfl);(case hn=>rfl);(case hr=>first|(go_simp;done)|(go_simp;rfl));intro w58 hw;have n0:Aside0 (Kd.R k36 36 w58 w.heap.size (fun k_=>some k_≠(v4:Value).ownBlock∧k_≠gb5) u8 x1):=⟨(by rw [hw];exact (Rt_ (Kd.R_mono (Kd.R_far (p:=⟨gb5,1,none⟩) (Kd.R_far (p:=⟨gb5,0,none⟩) (Kd.R_mono HO0.out (fun k_ hk=>(⟨hk,hk.2⟩:_∧k_≠gb5))) (fun _ hk=>hk.2) (.int .i64 t1)) (fun _ hk=>hk.2) (.int .i64 t2)) (fun _ hk=>⟨hk.1.1,hk.1.2⟩))))⟩;have n1:Aside0 (Kd.R k36 36 w58 w.heap.size (fun k_=>some k_≠(u8:Value).ownBlock∧k_≠gb5) v4 x6):=⟨(by rw [hw];exact (Rt_ (Kd.R_mono (Kd.R_far (p:=⟨gb5,1,none⟩) (Kd.R_far (p:=⟨gb5,0,none⟩) (Kd.R_mono HO3.out (fun k_ hk=>(⟨hk,hk.2⟩:_∧k_≠gb5))) (fun _ hk=>hk.2) (.int .i64 t1)) (fun _ hk=>hk.2) (.int .i64 t2)) (fun _ hk=>⟨hk.1.1,hk.1.2⟩))))⟩;have n2:Aside0 (Kd.R (Kd.int .i64) 3 w58 w.heap.size (fun _=>True) u374002 x5):=⟨(by rw [hw];exact (Rt_ (Kd.R_mono (Kd.R_far (p:=⟨gb5,1,none⟩) (Kd.R_far (p:=⟨gb5,0,none⟩) (Kd.R_types HO1.out BK5.out (by decide)) (fun _ hk=>hk.2) (.int .i64 t1)) (fun _ hk=>hk.2) (.int .i64 t2)) (fun _ hk=>trivial))))⟩;have n3:Aside0 (w58.heap[gb0]?=some (.cells #[.string a0,.slice A0 l2.length c0,.slice A2 l3.length c4,.slice A3 l4.length c5,.slice (some ad0) l5.length c9,.slice A5 l6.length c10,.int .i64 a1] 28 (0,0))):=⟨(by rw [hw];exact (bx BK0))⟩;have n4:Aside0 (w58.heap[gb1]?=some (.cells #[.int .i64 x8,.int .i64 x9,.slice none 0 0] 39 (0,0))):=⟨(by rw [hw];exact (bx BK1))⟩;have n5:Aside0 (w58.heap[gb2]?=some (.cells #[.int .i64 0,.int .i64 0,u374002] 39 (0,0))):=⟨(by rw [hw];exact (bx BK2))⟩;have n6:Aside0 (w58.heap[gb3]?=some (.cells #[.slice (some ad1) ((rd_T33 l5 x2).f0).length c49] 33 (0,0))):=⟨(by rw [hw];exact (bx BK3))⟩;have n7:Aside0 (w58.heap[gb4]?=some (.cells #[.bool ((rd_T63 ((rd_T33 l5 x2).f0) x7).f0),.slice A9 ((rd_T63 ((rd_T33 l5 x2).f0) x7).f1).length c64] 63 (0,0))):=⟨(by rw [hw];exact (bx BK4))⟩;have n8:Aside0 (w58.heap[gb5]?=some (.cells #[.int .i64 t1,.int .i64 t2] 36 (0,0))):=⟨(by rw [hw];exact (br_ BK5))⟩;have n9:Aside0 (Below w.heap.size w w58):=⟨(by rw [hw];exact (bf HB))⟩;clear hw;clear HO0;clear HO3;clear HO1;clear BK0;clear BK1;clear BK2;clear BK3;clear BK4;clear BK5;clear HB;have HO0:=n0;have HO3:=n1;have HO1:=n2;have BK0:=n3;have BK1:=n4;have BK2:=n5;have BK3:=n6;have BK4:=n7;have BK5:=n8;have HB:=n9;clear n0 n1 n2 n3 n4 n5 n6 n7 n8 n9;have hcz8:=X.k2 BK5;have p4:0≤(x7:Int):=od_;have q2:(x7:Int)<((x6.length:Int):Int):=od_;obtain ⟨go0,co0,eo0,gb6,gl0,cl0,HG0⟩:=Kd.R_form HO3.out (by omega);(first|cases eo0|(injection eo0 with ea_ en_ ec_;(first|subst ea_|(injection ea_ with ea_;subst ea_));subst ec_;clear en_));have GB0:=am gb6;have GG0:=am HG0;clear gb6 gl0 HG0;obtain ⟨ce0,hcl0,hM0,hcc0,hfr0⟩:=Kd.R_elem HO3.out z36 (x7:Int) p4 q2;obtain rfl:=k36_openM hM0;have hx4:w58.cell? ⟨go0,(x7:Int).toNat*2,none⟩=some (.int .i64 ((rd_T36 x6 x7).f0)):=hcc0 0 _ rfl;have hx5:w58.cell? ⟨go0,(x7:Int).toNat*2+1,none⟩=some (.int .i64 ((rd_T36 x6 x7).f1)):=hcc0 1 _ rfl;have hf0:w58.frozen? ⟨go0,(x7:Int).toNat*2,none⟩=false:=hfr0 0;have hf1:w58.frozen? ⟨go0,(x7:Int).toNat*2+1,none⟩=false:=hfr0 1;clear hcl0 hcc0 hfr0 hM0;replace p4:=eq_true p4;replace q2:=eq_true q2;have HX0:=am (show Kd.R k36 36 w58 w.heap.size (fun k_=>some k_≠(u8:Value).ownBlock∧k_≠gb5) (.slice (some ⟨go0,0,none⟩) x6.length co0) x6 from (Rt_ HO3.out));obtain ⟨ce1,hcl1,hM1,hcc1,hfr1⟩:=Kd.R_elem HX0.out z36 (x7:Int) (od_) (by have h_:(x7:Int)<((x6.length:Int):Int):=od_;first|exact h_|(have e_:=(Kd.R_reads' HO3.out).1;omega)|simpa using h_);obtain rfl:=k36_openM hM1;have HP0:=Kd.R_seg HX0.out (x7:Int) (od_) (by have h_:(x7:Int)<((x6.length:Int):Int):=od_;first|exact h_|(have e_:=(Kd.R_reads' HO3.out).1;omega)|simpa using h_) (seg:=[.int .i64 t1,.int .i64 t2]) (j:=0) hcl1 hcc1 (show 2≤2 from by decide) (x':=(⟨t1,t2⟩:S36)) (k36_mkM _ _ _ (⟨t1,t2⟩:S36) ) (fun _ hk=>hk);have hx6:=hcc1 0 _ rfl;(try simp only [show (k36).sz=2 from rfl,Nat.mul_one,Nat.add_zero] at hx6);have hf2:=hfr1 0;(try simp only [show (k36).sz=2 from rfl,Nat.mul_one,Nat.add_zero] at hf2);have hx7:=hcc1 1 _ rfl;(try simp only [show (k36).sz=2 from rfl,Nat.mul_one,Nat.add_zero] at hx7);have hf3:=hfr1 1;(try simp only [show (k36).sz=2 from rfl,Nat.mul_one,Nat.add_zero] at hf3);clear hcl1 hcc1 hfr1 hM1)|((with_reducible refine gate_store (t:=36) (p:=65) rfl ?_);refine store_event (t:=36) (p:=65) (v:=?vo_w61) (w1:=((w58.setCell ⟨go0,(x7:Int).toNat*2,none⟩ (.int .i64 t1)).setCell ⟨go0,(x7:Int).toNat*2+1,none⟩ (.int .i64 t2))) ?hg ?ho ?hn ?hr ?_;(case ho=>rfl);(case hg=>rfl);(case hn=>rfl);(case hr=>first|(go_simp;done)|(go_simp;rfl));intro w61 hw;have hg:w58.grownBy w61 (some go0):=(by rw [hw];exact HP0.2);have hp_:Kd.R k36 36 w61 w.heap.size (fun k_=>some k_≠(u8:Value).ownBlock∧k_≠gb5) (.slice (some ⟨go0,0,none⟩) x6.length co0) y1:=(by rw [hw,Ny1.out];exact HP0.1);clear HP0;replace HO0:=am (Kd.R_after (v:=(.slice (some ⟨go0,0,none⟩) x6.length co0)) (v1:=(.slice (some ⟨go0,0,none⟩) x6.length co0)) (ok:=(fun k_=>k_≠gb5)) (Rt_ (Kd.R_mono HO0.out (fun _ hk=>⟨hk.2,hk.1⟩))) hg (.inl rfl));replace HO1:=am (Kd.R_over' (v:=(.slice (some ⟨go0,0,none⟩) x6.length co0)) (Rt_ HO1.out) (Kd.R_typed HO3.out) (by decide) hg);replace BK0:=am (blk_grown (g:=gb0) (o:=.cells #[.string a0,.slice A0 l2.length c0,.slice A2 l3.length c4,.slice A3 l4.length c5,.slice (some ad0) l5.length c9,.slice A5 l6.length c10,.int .i64 a1] 28 (0,0)) (bx BK0) hg (Kd.R_ne HO3.out BK0.out (by decide)));replace BK1:=am (blk_grown (g:=gb1) (o:=.cells #[.int .i64 x8,.int .i64 x9,.slice none 0 0] 39 (0,0)) (bx BK1) hg (Kd.R_ne HO3.out BK1.out (by decide)));replace BK2:=am (blk_grown (g:=gb2) (o:=.cells #[.int .i64 0,.int .i64 0,u374002] 39 (0,0)) (bx BK2) hg (Kd.R_ne HO3.out BK2.out (by decide)));replace BK3:=am (blk_grown (g:=gb3) (o:=.cells #[.slice (some ad1) ((rd_T33 l5 x2).f0).length c49] 33 (0,0)) (bx BK3) hg (Kd.R_ne HO3.out BK3.out (by decide)));replace BK4:=am (blk_grown (g:=gb4) (o:=.cells #[.bool ((rd_T63 ((rd_T33 l5 x2).f0) x7).f0),.slice A9 ((rd_T63 ((rd_T33 l5 x2).f0) x7).f1).length c64] 63 (0,0)) (bx BK4) hg (Kd.R_ne HO3.out BK4.out (by decide)));replace BK5:=am (blk_grown (g:=gb5) (o:=.cells #[.int .i64 t1,.int .i64 t2] 36 (0,0)) (bx BK5) hg (Kd.R_away HO3.out (fun _ hk=>hk.2)));replace HO3:=am (hp_);replace HB:=am ((by rw [hw];exact below_set (below_set (HB.out) GB0.out) GB0.out:Below w.heap.size w w61));clear hg hw hp_))
 go_roundg k3
 case measure=>have:=HJ2.out;have:=HK2.out;have:=HK3.out;omega
 case rel=>exact ⟨(y1),(wrap64 (x7+1)),(x8),(x9),(aq),H',⟨by have:=HJ2.out;have:=HK2.out;have:=HK3.out;omega⟩,⟨Rt_ (Kd.R_mono HO0.out (fun _ hk=>hk.2))⟩,⟨Rt_ (Kd.R_mono HO3.out (fun _ hk=>hk.1))⟩,⟨Rt_ HO1.out⟩,bu_ BK0,bu_ BK1,bu_ BK2,bu_ BK3,⟨bf HB⟩⟩};{
 rw [if_neg c38] at H
 exact absurd H (by simp)}};{
 rw [if_neg c37] at H
 have c60:(t3==0)=false:=beq_eq_false_iff_ne.mpr c37
 have c61:(t3 != 0)=true:=bne_iff_ne.mpr c37
 simp only [Option.some.injEq,Prod.mk.injEq] at H
 obtain ⟨rfl,rfl,rfl,rfl⟩:=H
 have p1:0≤(x7:Int):=od_
 have q1:x7<(((rd_T33 l5 x2).f0).length:Int):=od_
 obtain ⟨ad1,A9,c64,e1,hx1,hx2,hl1,hi1⟩:=at_T63 HR6.out x7 p1 q1
 cases e1
 replace hx1:=hx_ HB hx1
 replace hx2:=hx_ HB hx2
 have HR7:=am hi1
 have HC8:=am hl1
 clear hi1 hl1
 replace p1:=eq_true p1
 replace q1:=eq_true q1
 go_wp2_with (first|((with_reducible refine gd 13 rfl ?_);refine bx_ 13 63 #[.bool false,.slice none 0 0] rfl rfl ?_;intro gb4 hg w62 BK4 hb;have GE4:=bz HB hg;have ⟨NB12,NB13⟩:=nb BK0 hg;have ⟨NB14,NB15⟩:=nb BK1 hg;have ⟨NB16,NB17⟩:=nb BK2 hg;have ⟨NB18,NB19⟩:=nb BK3 hg;replace HO0:=am (Kd.R_below (Rt_ HO0.out) hb);replace HO3:=am (Kd.R_below (Rt_ HO3.out) hb);replace HO1:=am (Kd.R_below (Rt_ HO1.out) hb);replace BK0:=bb BK0 hb;replace BK1:=bb BK1 hb;replace BK2:=bb BK2 hb;replace BK3:=bb BK3 hb;replace HB:=bs HB hb;clear hb hg;have hnb63:=nn NB13;have hnb64:=nn NB15;have hnb65:=nn NB17;have hnb66:=nn NB19;have hcz67:=X.k2 BK4;have hnb68:=nn NB0;have hnb69:=nn NB2;have hnb70:=nn NB6;have hcz71:=X.k7 BK0)|((with_reducible refine gc 20 rfl ?_);refine gm_ (some 55) rfl rfl Tryd.func20 (crit_ring.calls _ _ _ _ _ _ _ _ _ _ _ _ _ _ _ _ _ _ ((rd_T63 ((rd_T33 l5 x2).f0) x7).f0) _ _ ((rd_T63 ((rd_T33 l5 x2).f0) x7).f1) _ _ _ _ _ _ _ ?side1 ?side2 ?side3 ?side4 ?side5 ?side6 ?side7 ?side8 ?side9 ?side10 ?side11 ?side12 ?side13 ?side14 A8.out (tt GT)) ag ?_;(case side1=>exact Kd.C_below HR0.out (bf HB));(case side2=>exact HC0.out);(case side3=>exact Kd.C_below HR2.out (bf HB));(case side4=>exact HC2.out);(case side5=>exact Kd.C_below HR3.out (bf HB));(case side6=>exact HC4.out);(case side7=>exact Kd.C_below HR4.out (bf HB));(case side8=>exact HC5.out);(case side9=>exact Kd.C_below HR5.out (bf HB));(case side10=>exact HC6.out);(case side11=>exact Kd.C_below HR7.out (bf HB));(case side12=>exact HC8.out);(case side13=>exact Kd.C_below HR1.out (bf HB));(case side14=>exact HC1.out);intro w72 hb;replace HO0:=am (Kd.R_below (Rt_ (Kd.R_mono (Kd.R_far (p:=⟨gb4,1,none⟩) (Kd.R_far (p:=⟨gb4,0,none⟩) (Kd.R_types HO0.out BK4.out (by decide)) (fun _ hk=>hk.2) (.bool ((rd_T63 ((rd_T33 l5 x2).f0) x7).f0))) (fun _ hk=>hk.2) (.slice A9 ((rd_T63 ((rd_T33 l5 x2).f0) x7).f1).length c64)) (fun _ h_=>h_.1))) hb);replace HO3:=am (Kd.R_below (Rt_ (Kd.R_mono (Kd.R_far (p:=⟨gb4,1,none⟩) (Kd.R_far (p:=⟨gb4,0,none⟩) (Kd.R_types HO3.out BK4.out (by decide)) (fun _ hk=>hk.2) (.bool ((rd_T63 ((rd_T33 l5 x2).f0) x7).f0))) (fun _ hk=>hk.2) (.slice A9 ((rd_T63 ((rd_T33 l5 x2).f0) x7).f1).length c64)) (fun _ h_=>h_.1))) hb);replace HO1:=am (Kd.R_below (Rt_ (Kd.R_mono (Kd.R_far (p:=⟨gb4,1,none⟩) (Kd.R_far (p:=⟨gb4,0,none⟩) (Kd.R_types HO1.out BK4.out (by decide)) (fun _ hk=>hk.2) (.bool ((rd_T63 ((rd_T33 l5 x2).f0) x7).f0))) (fun _ hk=>hk.2) (.slice A9 ((rd_T63 ((rd_T33 l5 x2).f0) x7).f1).length c64)) (fun _ h_=>h_.1))) hb);replace BK0:=bb BK0 hb;replace BK1:=bb BK1 hb;replace BK2:=bb BK2 hb;replace BK3:=bb BK3 hb;replace BK4:=bp_ #[.bool ((rd_T63 ((rd_T33 l5 x2).f0) x7).f0),.slice A9 ((rd_T63 ((rd_T33 l5 x2).f0) x7).f1).length c64] BK4 hb;replace HB:=bs HB hb;(try clear hb))|((with_reducible refine gd 14 rfl ?_);refine bx_ 14 36 #[.int .i64 0,.int .i64 0] rfl rfl ?_;intro gb5 hg w73 BK5 hb;have GE5:=bz HB hg;have ⟨NB20,NB21⟩:=nb BK0 hg;have ⟨NB22,NB23⟩:=nb BK1 hg;have ⟨NB24,NB25⟩:=nb BK2 hg;have ⟨NB26,NB27⟩:=nb BK3 hg;have ⟨NB28,NB29⟩:=nb BK4 hg;replace HO0:=am (Kd.R_below (Kd.R_elderB (Rt_ HO0.out) gb5 (Nat.le_of_eq hg.symm)) hb);replace HO3:=am (Kd.R_below (Kd.R_elderB (Rt_ HO3.out) gb5 (Nat.le_of_eq hg.symm)) hb);replace HO1:=am (Kd.R_below (Rt_ HO1.out) hb);replace BK0:=bb BK0 hb;replace BK1:=bb BK1 hb;replace BK2:=bb BK2 hb;replace BK3:=bb BK3 hb;replace HB:=bs HB hb;clear hb hg;have hnb74:=nn NB21;have hnb75:=nn NB23;have hnb76:=nn NB25;have hnb77:=nn NB27;have hnb78:=nn NB29;have hcz79:=X.k2 BK5;have hnb80:=nn NB4;have hnb81:=nn NB8;have hcz82:=X.k3 BK1))
 refine bodyPost_ret (results_ct rfl _ _ gb1 39 #[.int .i64 0,.int .i64 0,.slice none 0 0] (0,0) _ rfl (br_ BK1) Tryd.underlying39 rfl (by kernel_rfl)) rfl ?_
 exact ⟨_,ae,by first|exact Kd.R_nil _ _ _ _ _|exact Kd.N_nil _ _ _ _ _|exact Kd.V_nil _ _ _ _ _|exact Kd.Q_nil _ _ _ _ _|exact Kd.S_nil _ _ _ _ _,bf HB⟩}};{
 rw [if_neg c35] at H
 exact absurd H (by simp)}};{
 rw [if_neg c34] at H
 exact absurd H (by simp)}};{
 rw [if_neg c33] at H
 have c54:decide (x7<(((rd_T33 l5 x2).f0).length:Int))=false:=decide_eq_false c33
 clear c33
 replace H:=bi_ H;obtain ⟨t4,A83,H⟩:=H
 (try dsimp only at H)
 obtain ⟨y2,hy2⟩:∃ y_:List Int,y_=(([t4]:List Int)):=⟨_,rfl⟩
 replace H:(if x5.length+y2.length<17592186044416 then (if 0≤t4 then (if t4<(x6.length:Int) then ((some (([(⟨(rd_T36 x6 t4).f0,(rd_T36 x6 t4).f1⟩:S36)]:List (S36)):List (S36))).bind fun y3=>(if x1.length+y3.length<8796093022208 then (crit_Sum.l0 k3 l1 (x1++y3) l5 (l5.length:Int) (wrap64 (x2+1)) a0 l2 l3 l4 l5 l6 a1 0 0 (x5++y2)) else (none))) else (none)) else (none)) else (none))=some (r1,r2,r3,r4):=by first|(rw [hy2];with_reducible exact H)|(have H0:=(Option.bind_some _ _).symm.trans H;rw [hy2];with_reducible exact H0)|(have H0:=(Option.bind_some _ _).symm.trans H;with_reducible exact H0)|with_reducible exact H|(rw [hy2];exact H)|exact H
 have Ny2:=am hy2
 clear hy2
 by_cases c84:x5.length+y2.length<17592186044416;{
 rw [if_pos c84] at H
 have LMc0:=am c84
 clear c84
 obtain ⟨y4,hy3⟩:∃ y_:List Int,y_=(x5++y2):=⟨_,rfl⟩
 replace H:(if 0≤t4 then (if t4<(x6.length:Int) then ((some (([(⟨(rd_T36 x6 t4).f0,(rd_T36 x6 t4).f1⟩:S36)]:List (S36)):List (S36))).bind fun y3=>(if x1.length+y3.length<8796093022208 then (crit_Sum.l0 k3 l1 (x1++y3) l5 (l5.length:Int) (wrap64 (x2+1)) a0 l2 l3 l4 l5 l6 a1 0 0 y4) else (none))) else (none)) else (none))=some (r1,r2,r3,r4):=by first|(rw [hy3];with_reducible exact H)|(have H0:=(Option.bind_some _ _).symm.trans H;rw [hy3];with_reducible exact H0)|(have H0:=(Option.bind_some _ _).symm.trans H;with_reducible exact H0)|with_reducible exact H|(rw [hy3];exact H)|exact H
 have Ny3:=am hy3
 clear hy3
 by_cases c85:0≤t4;{
 rw [if_pos c85] at H
 have c67:decide (0≤t4)=true:=decide_eq_true c85
 clear c85
 by_cases c86:t4<(x6.length:Int);{
 rw [if_pos c86] at H
 have c69:decide (t4<(x6.length:Int))=true:=decide_eq_true c86
 clear c86
 obtain ⟨y3,hy4⟩:∃ y_:List (S36),y_=(([(⟨(rd_T36 x6 t4).f0,(rd_T36 x6 t4).f1⟩:S36)]:List (S36))):=⟨_,rfl⟩
 replace H:(if x1.length+y3.length<8796093022208 then (crit_Sum.l0 k3 l1 (x1++y3) l5 (l5.length:Int) (wrap64 (x2+1)) a0 l2 l3 l4 l5 l6 a1 0 0 y4) else (none))=some (r1,r2,r3,r4):=by first|(rw [hy4];with_reducible exact H)|(have H0:=(Option.bind_some _ _).symm.trans H;rw [hy4];with_reducible exact H0)|(have H0:=(Option.bind_some _ _).symm.trans H;with_reducible exact H0)|with_reducible exact H|(rw [hy4];exact H)|exact H
 have Ny4:=am hy4
 clear hy4
 by_cases c87:x1.length+y3.length<8796093022208;{
 rw [if_pos c87] at H
 have LMc1:=am c87
 clear c87
 obtain ⟨y5,hy5⟩:∃ y_:List (S36),y_=(x1++y3):=⟨_,rfl⟩
 replace H:(crit_Sum.l0 k3 l1 y5 l5 (l5.length:Int) (wrap64 (x2+1)) a0 l2 l3 l4 l5 l6 a1 0 0 y4)=some (r1,r2,r3,r4):=by first|(rw [hy5];with_reducible exact H)|(have H0:=(Option.bind_some _ _).symm.trans H;rw [hy5];with_reducible exact H0)|(have H0:=(Option.bind_some _ _).symm.trans H;with_reducible exact H0)|with_reducible exact H|(rw [hy5];exact H)|exact H
 have Ny5:=am hy5
 clear hy5
 have H':=am H
 clear H
 obtain ⟨Ao0,co1,eo1⟩:=Kd.R_slice HO3.out
 subst eo1
 try go_wp2_with (first|((with_reducible refine gc 21 rfl ?_);refine gm_ (some 68) rfl rfl Tryd.func21 (crit_greatest.calls _ _ _ _ _ _ ?side1 ?side2 A83.out (tt GT)) ag ?_;(case side1=>repeat (first|exact (Kd.R_reads' HO3.out).2.2|(with_reducible refine Kd.C_alloc ?_ _)|(with_reducible refine Kd.C_drewN ?_ _)|(with_reducible refine Kd.C_drew ?_)));(case side2=>exact (Kd.R_reads' HO3.out).2.1);intro w89 hb;replace HO0:=am (Kd.R_below (Rt_ HO0.out) hb);replace HO3:=am (Kd.R_below (Rt_ HO3.out) hb);replace HO1:=am (Kd.R_below (Rt_ HO1.out) hb);replace BK0:=bb BK0 hb;replace BK1:=bb BK1 hb;replace BK2:=bb BK2 hb;replace BK3:=bb BK3 hb;replace HB:=bs HB hb;(try clear hb);obtain ⟨Ao1,co2,eo2⟩:=Kd.R_slice HO1.out;subst eo2;obtain ⟨Ao2,co3,eo3⟩:=Kd.R_slice HO0.out;subst eo3))
 replace HO0:=am (Kd.R_drew HO0.out)
 replace HO3:=am (Kd.R_drew HO3.out)
 replace HO1:=am (Kd.R_drew HO1.out)
 replace BK0:=am (blk_drew BK0.out)
 replace BK1:=am (blk_drew BK1.out)
 replace BK2:=am (blk_drew BK2.out)
 replace BK3:=am (blk_drew BK3.out)
 replace HB:=am (below_drew1 HB.out)
 have p5:0≤(t4:Int):=od_
 have q4:t4<(x6.length:Int):=od_
 obtain ⟨ad2,e2,hx8,hx9⟩:=at_T36 (Kd.R_reads' HO3.out).2.2 t4 p5 q4
 cases e2
 replace p5:=eq_true p5
 replace q4:=eq_true q4
 refine start_ (n:=15) (S:=fun w'=>c_ w' gb2 0 (.int .i64 0)∧c_ w' gb2 1 (.int .i64 0)∧c_ w' gb2 2 (.slice Ao1 x5.length co2)∧w'.cell? (ad2.add ((t4).toNat*2))=some (.int .i64 ((rd_T36 x6 t4).f0))∧w'.cell? ⟨(ad2.add ((t4).toNat*2)).block,(ad2.add ((t4).toNat*2)).off+1,none⟩=some (.int .i64 ((rd_T36 x6 t4).f1))) (ds:=[13]) (m_ 15 0) (by kernel_rfl) rfl rfl ⟨ct BK2 0,ct BK2 1,ct BK2 2,hx8,hx9⟩ (fun hHeld=>?_);refine with_tabW crit_Sum.tab19 crit_Sum.bits19 (fun HT_ HW_=>?_)
 generalize w89.drew=w92 at HO0 HO3 HO1 BK0 BK1 BK2 BK3 HB hx8 hx9 hHeld ⊢
 refine pu_ 0 (some 69) (m_ 15 1) rfl rfl (ao HT_) ?_
 refine pu_ 2 (some 71) (m_ 15 5) rfl rfl (ao HT_) ?_
 refine pu_ 5 (some 74) (m_ 15 37) rfl rfl (ao HT_) ?_
 refine pu_ 6 (some 75) (m_ 15 101) rfl rfl (ao HT_) ?_
 refine pu_ 7 (some 76) (m_ 15 229) rfl rfl (ao HT_) ?_
 refine pu_ 8 (some 77) (m_ 15 485) rfl rfl (ao HT_) ?_
 refine tk_ 1 (some 70) (m_ 15 487) rfl rfl (tw HT_ HW_) hHeld ?_
 refine tk_ 9 (some 78) (m_ 15 999) rfl rfl (tw HT_ HW_) hHeld ?_
 refine join_ (σ:=Value × Value × Value) 3 (m_ 15 6143) (fun s_=>[(72,s_.1),(73,s_.2.1),(79,s_.2.2),(81,.pointer (some ⟨gb2,2,none⟩))]) (fun s_ w'=>(c_ w' gb2 0 (.int .i64 0)∧c_ w' gb2 1 (.int .i64 0)∧c_ w' gb2 2 (.slice Ao1 x5.length co2)∧w'.cell? (ad2.add ((t4).toNat*2))=some (.int .i64 ((rd_T36 x6 t4).f0))∧w'.cell? ⟨(ad2.add ((t4).toNat*2)).block,(ad2.add ((t4).toNat*2)).off+1,none⟩=some (.int .i64 ((rd_T36 x6 t4).f1)))∧(Kd.R (Kd.int .i64) 3 w' w.heap.size (fun k_=>some k_≠(s_.2.1:Value).ownBlock) s_.1 y2)∧(Kd.R (Kd.int .i64) 3 w' w.heap.size (fun k_=>some k_≠(s_.1:Value).ownBlock) s_.2.1 y4)∧(Kd.R k36 36 w' w.heap.size (fun k_=>some k_≠(.slice (some ad2) x6.length co1:Value).ownBlock∧some k_≠(.slice Ao2 x1.length co3:Value).ownBlock) s_.2.2 y3)∧(Kd.R k36 36 w' w.heap.size (fun k_=>some k_≠(s_.2.2:Value).ownBlock∧some k_≠(.slice Ao2 x1.length co3:Value).ownBlock) (.slice (some ad2) x6.length co1) x6)∧(Kd.R k36 36 w' w.heap.size (fun k_=>some k_≠(s_.2.2:Value).ownBlock∧some k_≠(.slice (some ad2) x6.length co1:Value).ownBlock) (.slice Ao2 x1.length co3) x1)∧(w'.heap[gb0]?=some (.cells #[.string a0,.slice A0 l2.length c0,.slice A2 l3.length c4,.slice A3 l4.length c5,.slice (some ad0) l5.length c9,.slice A5 l6.length c10,.int .i64 a1] 28 (0,0)))∧(w'.heap[gb1]?=some (.cells #[.int .i64 x8,.int .i64 x9,.slice none 0 0] 39 (0,0)))∧(w'.heap[gb2]?=some (.cells #[.int .i64 0,.int .i64 0,.slice Ao1 x5.length co2] 39 (0,0)))∧(w'.heap[gb3]?=some (.cells #[.slice A6 ((rd_T33 l5 x2).f0).length c49] 33 (0,0)))∧(Below w.heap.size w w')) ?_ ?_
 rotate_left;{
 intro hCont
 refine two_ (i:=3) (j:=10) (Ni:=some 72) (Nj:=some 79) (m_ 15 1007) (m_ 15 2023) rfl rfl rfl rfl (two_of HT_.out (by kernel_rfl)) (by decide) (by decide) (fun K hK=>?_) (fun K hK=>?_);{
 skip
 refine Kd.R_lit_step (Kd.int .i64) _ 3 ?hg (N:=72) ?hd (xs:=([t4]:List Int)) (inner:=[.int .i64 t4]) (ok:=fun _=>True) (okp:=fun _=>True) ?hr ?hp (fun _ hk=>hk) trivial (Below.refl _ _) (Nat.le_refl _) (by simp) ?_;(case hd=>rfl);(case hg=>rfl);(case hr=>first|(go_simp;done)|(go_simp;rfl));(case hp=>exact (Reps.one (show Kd.M (Kd.int .i64) _ _ _ t4 [.int .i64 t4] from rfl) (Reps.none _ _)))
 intro v6 w93 ho1 hb hg_ hnew_
 have HS0:=(hb.cell (World.block_lt_of_cell? _ _ (hHeld.2.2.2.1))).trans (hHeld.2.2.2.1)
 have HS1:=(hb.cell (World.block_lt_of_cell? _ _ (hHeld.2.2.2.2))).trans (hHeld.2.2.2.2)
 clear hg_ hnew_
 (first|rw [← Ny2.out] at ho1|(simp only [Int.reduceToNat] at ho1;rw [← Ny2.out] at ho1))
 have HO4:=am (Kd.R_lower (Kd.R_new' ho1 (Kd.R_lt (Rt_ HO1.out))) (below_size (bf HB)))
 replace HO0:=am (Kd.R_below (Rt_ HO0.out) hb)
 replace HO3:=am (Kd.R_below (Rt_ HO3.out) hb)
 replace HO1:=am (Kd.R_elder' (Rt_ HO1.out) (Kd.R_base ho1) hb)
 replace BK0:=bb BK0 hb
 replace BK1:=bb BK1 hb
 replace BK2:=bb BK2 hb
 replace BK3:=bb BK3 hb
 replace HB:=bs HB hb
 clear hb ho1
 obtain ⟨Ao3,co4,eo4⟩:=Kd.R_slice HO4.out
 (first|subst eo4|(injection eo4 with f1_ f2_ f3_;have f4_:=f1_.symm;have f5_:=f3_.symm;clear f1_ f2_ f3_;subst f4_;subst f5_))
 refine hK.out _ _ ⟨ct BK2 0,ct BK2 1,ct BK2 2,HS0,HS1⟩ (fun hHeld=>?_)
 clear hK K
 refine nr_ (some 72) ?_
 refine two_ (i:=4) (j:=10) (Ni:=some 73) (Nj:=some 79) (m_ 15 1023) (m_ 15 2031) rfl rfl rfl rfl (two_of HT_.out (by kernel_rfl)) (by decide) (by decide) (fun K hK=>?_) (fun K hK=>?_);{
 skip
 refine Kd.R_append_rows_step (Kd.int .i64) (w0:=w) w.heap.size (by rfl) (.tmp 70) (.tmp 72) 37 3 (.int .i64 0) 8 rfl Tryd.underlying37 info3 rfl (by decide) (by omega) (.slice Ao1 x5.length co2) x5 y2 _ _ _ (fun k_=>some k_≠(.slice Ao3 y2.length co4:Value).ownBlock) (fun _=>False) rfl rfl ?aO ?aR (fun _ _ h=>h) (fun _ h=>h.elim) ?aF ?aB ?aS ?aL ?_
 (case aR=>exact rc HO4)
 (case aB=>exact (bf HB))
 (case aF=>exact (fun k_ hk=>Kd.fresh' (rl HO4) k_ hk))
 (case aO=>exact (Rt_ (Kd.R_mono HO1.out (fun _ hk=>hk.2))))
 (case aS=>exact (below_size (bf HB)))
 (case aL=>have:=LMc0.out;omega)
 intro v7 w95 ho hb hg hat
 rw [← Ny3.out] at ho
 have n0:=am (Kd.R_over' (Rt_ HO0.out) (Kd.R_typed (Rt_ HO1.out)) (by decide) hg)
 have n1:=am (Kd.R_over' (Rt_ HO3.out) (Kd.R_typed (Rt_ HO1.out)) (by decide) hg)
 have n2:=am (blk_grown (g:=gb0) (o:=.cells #[.string a0,.slice A0 l2.length c0,.slice A2 l3.length c4,.slice A3 l4.length c5,.slice (some ad0) l5.length c9,.slice A5 l6.length c10,.int .i64 a1] 28 (0,0)) (bx BK0) hg (Kd.R_ne HO1.out BK0.out (by decide)))
 have n3:=am (blk_grown (g:=gb1) (o:=.cells #[.int .i64 x8,.int .i64 x9,.slice none 0 0] 39 (0,0)) (bx BK1) hg (Kd.R_ne HO1.out BK1.out (by decide)))
 have n4:=am (blk_grown (g:=gb2) (o:=.cells #[.int .i64 0,.int .i64 0,.slice Ao1 x5.length co2] 39 (0,0)) (bx BK2) hg (Kd.R_ne HO1.out BK2.out (by decide)))
 have n5:=am (blk_grown (g:=gb3) (o:=.cells #[.slice A6 ((rd_T33 l5 x2).f0).length c49] 33 (0,0)) (bx BK3) hg (Kd.R_ne HO1.out BK3.out (by decide)))
 have n6:=am (Kd.R_after (ok:=(fun _=>True)) (Rt_ HO4.out) hg hat)
 have n7:=am (hb)
 have n8:=am (ho)
 clear HO0
 clear HO3
 clear BK0
 clear BK1
 clear BK2
 clear BK3
 clear HO4
 clear HB
 clear HO1
 have HO0:=n0
 have HO3:=n1
 have BK0:=n2
 have BK1:=n3
 have BK2:=n4
 have BK3:=n5
 have HO4:=n6
 have HB:=n7
 have HO5:=n8
 clear n0 n1 n2 n3 n4 n5 n6 n7 n8
 clear ho hb hg hat
 obtain ⟨ad397z,e397z,hx397_0z,hx397_1z⟩:=at_T36 (Kd.R_reads' HO3.out).2.2 t4 (by first|exact p5|exact of_eq_true p5) (by first|exact q4|exact of_eq_true q4)
 cases e397z
 refine hK.out _ _ ⟨ct BK2 0,ct BK2 1,ct BK2 2,hx397_0z,hx397_1z⟩ (fun hHeld=>?_)
 clear hK K
 refine nr_ (some 73) ?_
 refine pu_ 12 (some 81) (m_ 15 5119) rfl rfl (ao HT_) ?_
 refine o1_ 10 (some 79) (m_ 15 6143) rfl rfl (oo HT_) (fun K hK=>?_)
 refine Kd.R_lit_step k36 _ 36 ?hg (N:=79) ?hd (xs:=([(⟨(rd_T36 x6 t4).f0,(rd_T36 x6 t4).f1⟩:S36)]:List (S36))) (inner:=[.int .i64 ((rd_T36 x6 t4).f0),.int .i64 ((rd_T36 x6 t4).f1)]) (ok:=fun _=>True) (okp:=fun _=>True) ?hr ?hp (fun _ hk=>hk) trivial (Below.refl _ _) (Nat.le_refl _) (by simp) ?_;(case hd=>rfl);(case hg=>rfl);(case hr=>first|(go_simp;done)|(go_simp;rfl));(case hp=>exact (Reps.c2 (show Kd.M k36 _ _ _ (⟨(rd_T36 x6 t4).f0,(rd_T36 x6 t4).f1⟩:S36) [.int .i64 ((rd_T36 x6 t4).f0),.int .i64 ((rd_T36 x6 t4).f1)] from (k36_mkM _ _ _ (⟨(rd_T36 x6 t4).f0,(rd_T36 x6 t4).f1⟩:S36) )) (Reps.none _ _)))
 intro v9 w97 ho2 hb hg_ hnew_
 have HS0:=(hb.cell (World.block_lt_of_cell? _ _ (hHeld.2.2.2.1))).trans (hHeld.2.2.2.1)
 have HS1:=(hb.cell (World.block_lt_of_cell? _ _ (hHeld.2.2.2.2))).trans (hHeld.2.2.2.2)
 clear hg_ hnew_
 (first|rw [← Ny4.out] at ho2|(simp only [Int.reduceToNat] at ho2;rw [← Ny4.out] at ho2))
 have HO6:=am (Kd.R_lower (Kd.R_new' (Kd.R_new' ho2 (Kd.R_lt (Rt_ HO0.out))) (Kd.R_lt (Rt_ HO3.out))) (below_size (bf HB)))
 replace HO0:=am (Kd.R_elder' (Rt_ HO0.out) (Kd.R_base ho2) hb)
 replace HO3:=am (Kd.R_elder' (Rt_ HO3.out) (Kd.R_base ho2) hb)
 replace HO4:=rb HO4 hb
 replace HO5:=rb HO5 hb
 replace BK0:=bb BK0 hb
 replace BK1:=bb BK1 hb
 replace BK2:=bb BK2 hb
 replace BK3:=bb BK3 hb
 replace HB:=bs HB hb
 clear hb ho2
 refine hK.out _ _ ⟨ct BK2 0,ct BK2 1,ct BK2 2,HS0,HS1⟩ (fun hHeld=>?_)
 clear hK K
 refine nr_ (some 79) ?_
 exact norm_ (by simp only [putAll,Act.put,si,s0,s1]) (hCont (.slice Ao3 y2.length co4,v7,v9) _ ⟨hHeld,(Rt_ (Kd.R_mono HO4.out (fun _ hk=>hk.2))),(Rt_ HO5.out),(Rt_ (Kd.R_mono HO6.out (fun _ hk=>⟨hk.2,hk.1.2⟩))),(Rt_ (Kd.R_mono HO3.out (fun _ hk=>⟨hk.2,hk.1⟩))),(Rt_ (Kd.R_mono HO0.out (fun _ hk=>⟨hk.2,hk.1⟩))),(bx BK0),(bx BK1),(bx BK2),(bx BK3),(bf HB)⟩)};{
 skip
 refine Kd.R_lit_step k36 _ 36 ?hg (N:=79) ?hd (xs:=([(⟨(rd_T36 x6 t4).f0,(rd_T36 x6 t4).f1⟩:S36)]:List (S36))) (inner:=[.int .i64 ((rd_T36 x6 t4).f0),.int .i64 ((rd_T36 x6 t4).f1)]) (ok:=fun _=>True) (okp:=fun _=>True) ?hr ?hp (fun _ hk=>hk) trivial (Below.refl _ _) (Nat.le_refl _) (by simp) ?_;(case hd=>rfl);(case hg=>rfl);(case hr=>first|(go_simp;done)|(go_simp;rfl));(case hp=>exact (Reps.c2 (show Kd.M k36 _ _ _ (⟨(rd_T36 x6 t4).f0,(rd_T36 x6 t4).f1⟩:S36) [.int .i64 ((rd_T36 x6 t4).f0),.int .i64 ((rd_T36 x6 t4).f1)] from (k36_mkM _ _ _ (⟨(rd_T36 x6 t4).f0,(rd_T36 x6 t4).f1⟩:S36) )) (Reps.none _ _)))
 intro v9 w95 ho3 hb hg_ hnew_
 have HS0:=(hb.cell (World.block_lt_of_cell? _ _ (hHeld.2.2.2.1))).trans (hHeld.2.2.2.1)
 have HS1:=(hb.cell (World.block_lt_of_cell? _ _ (hHeld.2.2.2.2))).trans (hHeld.2.2.2.2)
 clear hg_ hnew_
 (first|rw [← Ny4.out] at ho3|(simp only [Int.reduceToNat] at ho3;rw [← Ny4.out] at ho3))
 have HO6:=am (Kd.R_lower (Kd.R_new' (Kd.R_new' ho3 (Kd.R_lt (Rt_ HO0.out))) (Kd.R_lt (Rt_ HO3.out))) (below_size (bf HB)))
 replace HO0:=am (Kd.R_elder' (Rt_ HO0.out) (Kd.R_base ho3) hb)
 replace HO3:=am (Kd.R_elder' (Rt_ HO3.out) (Kd.R_base ho3) hb)
 replace HO1:=am (Kd.R_below (Rt_ HO1.out) hb)
 replace HO4:=rb HO4 hb
 replace BK0:=bb BK0 hb
 replace BK1:=bb BK1 hb
 replace BK2:=bb BK2 hb
 replace BK3:=bb BK3 hb
 replace HB:=bs HB hb
 clear hb ho3
 obtain ⟨Ao4,co5,eo5⟩:=Kd.R_slice HO4.out
 (first|subst eo5|(injection eo5 with f1_ f2_ f3_;have f4_:=f1_.symm;have f5_:=f3_.symm;clear f1_ f2_ f3_;subst f4_;subst f5_))
 refine hK.out _ _ ⟨ct BK2 0,ct BK2 1,ct BK2 2,HS0,HS1⟩ (fun hHeld=>?_)
 clear hK K
 refine nr_ (some 79) ?_
 refine o1_ 4 (some 73) (m_ 15 2047) rfl rfl (oo HT_) (fun K hK=>?_)
 refine Kd.R_append_rows_step (Kd.int .i64) (w0:=w) w.heap.size (by rfl) (.tmp 70) (.tmp 72) 37 3 (.int .i64 0) 8 rfl Tryd.underlying37 info3 rfl (by decide) (by omega) (.slice Ao1 x5.length co2) x5 y2 _ _ _ (fun k_=>some k_≠(.slice Ao4 y2.length co5:Value).ownBlock) (fun _=>False) rfl rfl ?aO ?aR (fun _ _ h=>h) (fun _ h=>h.elim) ?aF ?aB ?aS ?aL ?_
 (case aR=>exact rc HO4)
 (case aB=>exact (bf HB))
 (case aF=>exact (fun k_ hk=>Kd.fresh' (rl HO4) k_ hk))
 (case aO=>exact (Rt_ (Kd.R_mono HO1.out (fun _ hk=>hk.2))))
 (case aS=>exact (below_size (bf HB)))
 (case aL=>have:=LMc0.out;omega)
 intro v7 w97 ho hb hg hat
 rw [← Ny3.out] at ho
 have n0:=am (Kd.R_over' (Rt_ HO0.out) (Kd.R_typed (Rt_ HO1.out)) (by decide) hg)
 have n1:=am (Kd.R_over' (Rt_ HO3.out) (Kd.R_typed (Rt_ HO1.out)) (by decide) hg)
 have n2:=am (blk_grown (g:=gb0) (o:=.cells #[.string a0,.slice A0 l2.length c0,.slice A2 l3.length c4,.slice A3 l4.length c5,.slice (some ad0) l5.length c9,.slice A5 l6.length c10,.int .i64 a1] 28 (0,0)) (bx BK0) hg (Kd.R_ne HO1.out BK0.out (by decide)))
 have n3:=am (blk_grown (g:=gb1) (o:=.cells #[.int .i64 x8,.int .i64 x9,.slice none 0 0] 39 (0,0)) (bx BK1) hg (Kd.R_ne HO1.out BK1.out (by decide)))
 have n4:=am (blk_grown (g:=gb2) (o:=.cells #[.int .i64 0,.int .i64 0,.slice Ao1 x5.length co2] 39 (0,0)) (bx BK2) hg (Kd.R_ne HO1.out BK2.out (by decide)))
 have n5:=am (blk_grown (g:=gb3) (o:=.cells #[.slice A6 ((rd_T33 l5 x2).f0).length c49] 33 (0,0)) (bx BK3) hg (Kd.R_ne HO1.out BK3.out (by decide)))
 have n6:=am (Kd.R_after (ok:=(fun _=>True)) (Rt_ HO4.out) hg hat)
 have n7:=am (Kd.R_over' (Rt_ HO6.out) (Kd.R_typed (Rt_ HO1.out)) (by decide) hg)
 have n8:=am (hb)
 have n9:=am (ho)
 clear HO0
 clear HO3
 clear BK0
 clear BK1
 clear BK2
 clear BK3
 clear HO4
 clear HO6
 clear HB
 clear HO1
 have HO0:=n0
 have HO3:=n1
 have BK0:=n2
 have BK1:=n3
 have BK2:=n4
 have BK3:=n5
 have HO4:=n6
 have HO6:=n7
 have HB:=n8
 have HO5:=n9
 clear n0 n1 n2 n3 n4 n5 n6 n7 n8 n9
 clear ho hb hg hat
 obtain ⟨ad397z,e397z,hx397_0z,hx397_1z⟩:=at_T36 (Kd.R_reads' HO3.out).2.2 t4 (by first|exact p5|exact of_eq_true p5) (by first|exact q4|exact of_eq_true q4)
 cases e397z
 refine hK.out _ _ ⟨ct BK2 0,ct BK2 1,ct BK2 2,hx397_0z,hx397_1z⟩ (fun hHeld=>?_)
 clear hK K
 refine nr_ (some 73) ?_
 refine pu_ 12 (some 81) (m_ 15 6143) rfl rfl (ao HT_) ?_
 exact norm_ (by simp only [putAll,Act.put,si,s0,s1]) (hCont (.slice Ao4 y2.length co5,v7,v9) _ ⟨hHeld,(Rt_ (Kd.R_mono HO4.out (fun _ hk=>hk.2))),(Rt_ HO5.out),(Rt_ (Kd.R_mono HO6.out (fun _ hk=>⟨hk.2,hk.1.2⟩))),(Rt_ (Kd.R_mono HO3.out (fun _ hk=>⟨hk.2,hk.1⟩))),(Rt_ (Kd.R_mono HO0.out (fun _ hk=>⟨hk.2,hk.1⟩))),(bx BK0),(bx BK1),(bx BK2),(bx BK3),(bf HB)⟩)}};{
 skip
 refine Kd.R_lit_step k36 _ 36 ?hg (N:=79) ?hd (xs:=([(⟨(rd_T36 x6 t4).f0,(rd_T36 x6 t4).f1⟩:S36)]:List (S36))) (inner:=[.int .i64 ((rd_T36 x6 t4).f0),.int .i64 ((rd_T36 x6 t4).f1)]) (ok:=fun _=>True) (okp:=fun _=>True) ?hr ?hp (fun _ hk=>hk) trivial (Below.refl _ _) (Nat.le_refl _) (by simp) ?_;(case hd=>rfl);(case hg=>rfl);(case hr=>first|(go_simp;done)|(go_simp;rfl));(case hp=>exact (Reps.c2 (show Kd.M k36 _ _ _ (⟨(rd_T36 x6 t4).f0,(rd_T36 x6 t4).f1⟩:S36) [.int .i64 ((rd_T36 x6 t4).f0),.int .i64 ((rd_T36 x6 t4).f1)] from (k36_mkM _ _ _ (⟨(rd_T36 x6 t4).f0,(rd_T36 x6 t4).f1⟩:S36) )) (Reps.none _ _)))
 intro v9 w93 ho1 hb hg_ hnew_
 have HS0:=(hb.cell (World.block_lt_of_cell? _ _ (hHeld.2.2.2.1))).trans (hHeld.2.2.2.1)
 have HS1:=(hb.cell (World.block_lt_of_cell? _ _ (hHeld.2.2.2.2))).trans (hHeld.2.2.2.2)
 clear hg_ hnew_
 (first|rw [← Ny4.out] at ho1|(simp only [Int.reduceToNat] at ho1;rw [← Ny4.out] at ho1))
 have HO6:=am (Kd.R_lower (Kd.R_new' (Kd.R_new' ho1 (Kd.R_lt (Rt_ HO0.out))) (Kd.R_lt (Rt_ HO3.out))) (below_size (bf HB)))
 replace HO0:=am (Kd.R_elder' (Rt_ HO0.out) (Kd.R_base ho1) hb)
 replace HO3:=am (Kd.R_elder' (Rt_ HO3.out) (Kd.R_base ho1) hb)
 replace HO1:=am (Kd.R_below (Rt_ HO1.out) hb)
 replace BK0:=bb BK0 hb
 replace BK1:=bb BK1 hb
 replace BK2:=bb BK2 hb
 replace BK3:=bb BK3 hb
 replace HB:=bs HB hb
 clear hb ho1
 refine hK.out _ _ ⟨ct BK2 0,ct BK2 1,ct BK2 2,HS0,HS1⟩ (fun hHeld=>?_)
 clear hK K
 refine nr_ (some 79) ?_
 refine o1_ 3 (some 72) (m_ 15 2031) rfl rfl (oo HT_) (fun K hK=>?_)
 refine Kd.R_lit_step (Kd.int .i64) _ 3 ?hg (N:=72) ?hd (xs:=([t4]:List Int)) (inner:=[.int .i64 t4]) (ok:=fun _=>True) (okp:=fun _=>True) ?hr ?hp (fun _ hk=>hk) trivial (Below.refl _ _) (Nat.le_refl _) (by simp) ?_;(case hd=>rfl);(case hg=>rfl);(case hr=>first|(go_simp;done)|(go_simp;rfl));(case hp=>exact (Reps.one (show Kd.M (Kd.int .i64) _ _ _ t4 [.int .i64 t4] from rfl) (Reps.none _ _)))
 intro v6 w95 ho3 hb hg_ hnew_
 have HS0:=(hb.cell (World.block_lt_of_cell? _ _ (hHeld.2.2.2.1))).trans (hHeld.2.2.2.1)
 have HS1:=(hb.cell (World.block_lt_of_cell? _ _ (hHeld.2.2.2.2))).trans (hHeld.2.2.2.2)
 clear hg_ hnew_
 (first|rw [← Ny2.out] at ho3|(simp only [Int.reduceToNat] at ho3;rw [← Ny2.out] at ho3))
 have HO4:=am (Kd.R_lower (Kd.R_new' ho3 (Kd.R_lt (Rt_ HO1.out))) (below_size (bf HB)))
 replace HO0:=am (Kd.R_below (Rt_ HO0.out) hb)
 replace HO3:=am (Kd.R_below (Rt_ HO3.out) hb)
 replace HO1:=am (Kd.R_elder' (Rt_ HO1.out) (Kd.R_base ho3) hb)
 replace HO6:=rb HO6 hb
 replace BK0:=bb BK0 hb
 replace BK1:=bb BK1 hb
 replace BK2:=bb BK2 hb
 replace BK3:=bb BK3 hb
 replace HB:=bs HB hb
 clear hb ho3
 obtain ⟨Ao4,co5,eo5⟩:=Kd.R_slice HO4.out
 (first|subst eo5|(injection eo5 with f1_ f2_ f3_;have f4_:=f1_.symm;have f5_:=f3_.symm;clear f1_ f2_ f3_;subst f4_;subst f5_))
 refine hK.out _ _ ⟨ct BK2 0,ct BK2 1,ct BK2 2,HS0,HS1⟩ (fun hHeld=>?_)
 clear hK K
 refine nr_ (some 72) ?_
 refine o1_ 4 (some 73) (m_ 15 2047) rfl rfl (oo HT_) (fun K hK=>?_)
 refine Kd.R_append_rows_step (Kd.int .i64) (w0:=w) w.heap.size (by rfl) (.tmp 70) (.tmp 72) 37 3 (.int .i64 0) 8 rfl Tryd.underlying37 info3 rfl (by decide) (by omega) (.slice Ao1 x5.length co2) x5 y2 _ _ _ (fun k_=>some k_≠(.slice Ao4 y2.length co5:Value).ownBlock) (fun _=>False) rfl rfl ?aO ?aR (fun _ _ h=>h) (fun _ h=>h.elim) ?aF ?aB ?aS ?aL ?_
 (case aR=>exact rc HO4)
 (case aB=>exact (bf HB))
 (case aF=>exact (fun k_ hk=>Kd.fresh' (rl HO4) k_ hk))
 (case aO=>exact (Rt_ (Kd.R_mono HO1.out (fun _ hk=>hk.2))))
 (case aS=>exact (below_size (bf HB)))
 (case aL=>have:=LMc0.out;omega)
 intro v7 w97 ho hb hg hat
 rw [← Ny3.out] at ho
 have n0:=am (Kd.R_over' (Rt_ HO0.out) (Kd.R_typed (Rt_ HO1.out)) (by decide) hg)
 have n1:=am (Kd.R_over' (Rt_ HO3.out) (Kd.R_typed (Rt_ HO1.out)) (by decide) hg)
 have n2:=am (blk_grown (g:=gb0) (o:=.cells #[.string a0,.slice A0 l2.length c0,.slice A2 l3.length c4,.slice A3 l4.length c5,.slice (some ad0) l5.length c9,.slice A5 l6.length c10,.int .i64 a1] 28 (0,0)) (bx BK0) hg (Kd.R_ne HO1.out BK0.out (by decide)))
 have n3:=am (blk_grown (g:=gb1) (o:=.cells #[.int .i64 x8,.int .i64 x9,.slice none 0 0] 39 (0,0)) (bx BK1) hg (Kd.R_ne HO1.out BK1.out (by decide)))
 have n4:=am (blk_grown (g:=gb2) (o:=.cells #[.int .i64 0,.int .i64 0,.slice Ao1 x5.length co2] 39 (0,0)) (bx BK2) hg (Kd.R_ne HO1.out BK2.out (by decide)))
 have n5:=am (blk_grown (g:=gb3) (o:=.cells #[.slice A6 ((rd_T33 l5 x2).f0).length c49] 33 (0,0)) (bx BK3) hg (Kd.R_ne HO1.out BK3.out (by decide)))
 have n6:=am (Kd.R_over' (Rt_ HO6.out) (Kd.R_typed (Rt_ HO1.out)) (by decide) hg)
 have n7:=am (Kd.R_after (ok:=(fun _=>True)) (Rt_ HO4.out) hg hat)
 have n8:=am (hb)
 have n9:=am (ho)
 clear HO0
 clear HO3
 clear BK0
 clear BK1
 clear BK2
 clear BK3
 clear HO6
 clear HO4
 clear HB
 clear HO1
 have HO0:=n0
 have HO3:=n1
 have BK0:=n2
 have BK1:=n3
 have BK2:=n4
 have BK3:=n5
 have HO6:=n6
 have HO4:=n7
 have HB:=n8
 have HO5:=n9
 clear n0 n1 n2 n3 n4 n5 n6 n7 n8 n9
 clear ho hb hg hat
 obtain ⟨ad397z,e397z,hx397_0z,hx397_1z⟩:=at_T36 (Kd.R_reads' HO3.out).2.2 t4 (by first|exact p5|exact of_eq_true p5) (by first|exact q4|exact of_eq_true q4)
 cases e397z
 refine hK.out _ _ ⟨ct BK2 0,ct BK2 1,ct BK2 2,hx397_0z,hx397_1z⟩ (fun hHeld=>?_)
 clear hK K
 refine nr_ (some 73) ?_
 refine pu_ 12 (some 81) (m_ 15 6143) rfl rfl (ao HT_) ?_
 exact norm_ (by simp only [putAll,Act.put,si,s0,s1]) (hCont (.slice Ao4 y2.length co5,v7,v9) _ ⟨hHeld,(Rt_ (Kd.R_mono HO4.out (fun _ hk=>hk.2))),(Rt_ HO5.out),(Rt_ (Kd.R_mono HO6.out (fun _ hk=>⟨hk.2,hk.1.2⟩))),(Rt_ (Kd.R_mono HO3.out (fun _ hk=>⟨hk.2,hk.1⟩))),(Rt_ (Kd.R_mono HO0.out (fun _ hk=>⟨hk.2,hk.1⟩))),(bx BK0),(bx BK1),(bx BK2),(bx BK3),(bf HB)⟩)}}
 rintro ⟨v6,v7,v9⟩ w99 ⟨hS_,h0,h1,h2,h3,h4,h5,h6,h7,h8,h9⟩
 have n0:Aside0 (Kd.R (Kd.int .i64) 3 w99 w.heap.size (fun k_=>some k_≠(v7:Value).ownBlock) v6 y2):=⟨h0⟩
 have n1:Aside0 (Kd.R (Kd.int .i64) 3 w99 w.heap.size (fun k_=>some k_≠(v6:Value).ownBlock) v7 y4):=⟨h1⟩
 have n2:Aside0 (Kd.R k36 36 w99 w.heap.size (fun k_=>some k_≠(.slice (some ad2) x6.length co1:Value).ownBlock∧some k_≠(.slice Ao2 x1.length co3:Value).ownBlock) v9 y3):=⟨h2⟩
 have n3:Aside0 (Kd.R k36 36 w99 w.heap.size (fun k_=>some k_≠(v9:Value).ownBlock∧some k_≠(.slice Ao2 x1.length co3:Value).ownBlock) (.slice (some ad2) x6.length co1) x6):=⟨h3⟩
 have n4:Aside0 (Kd.R k36 36 w99 w.heap.size (fun k_=>some k_≠(v9:Value).ownBlock∧some k_≠(.slice (some ad2) x6.length co1:Value).ownBlock) (.slice Ao2 x1.length co3) x1):=⟨h4⟩
 have n5:Aside0 (w99.heap[gb0]?=some (.cells #[.string a0,.slice A0 l2.length c0,.slice A2 l3.length c4,.slice A3 l4.length c5,.slice (some ad0) l5.length c9,.slice A5 l6.length c10,.int .i64 a1] 28 (0,0))):=⟨h5⟩
 have n6:Aside0 (w99.heap[gb1]?=some (.cells #[.int .i64 x8,.int .i64 x9,.slice none 0 0] 39 (0,0))):=⟨h6⟩
 have n7:Aside0 (w99.heap[gb2]?=some (.cells #[.int .i64 0,.int .i64 0,.slice Ao1 x5.length co2] 39 (0,0))):=⟨h7⟩
 have n8:Aside0 (w99.heap[gb3]?=some (.cells #[.slice A6 ((rd_T33 l5 x2).f0).length c49] 33 (0,0))):=⟨h8⟩
 have n9:Aside0 (Below w.heap.size w w99):=⟨h9⟩
 clear HO0
 clear HO3
 clear HO1
 clear BK0
 clear BK1
 clear BK2
 clear BK3
 clear HB
 clear h0 h1 h2 h3 h4 h5 h6 h7 h8 h9
 have HO4:=n0
 have HO5:=n1
 have HO6:=n2
 have HO3:=n3
 have HO0:=n4
 have BK0:=n5
 have BK1:=n6
 have BK2:=n7
 have BK3:=n8
 have HB:=n9
 clear n0 n1 n2 n3 n4 n5 n6 n7 n8 n9
 have hHeld:c_ w99 gb2 0 (.int .i64 0)∧c_ w99 gb2 1 (.int .i64 0)∧c_ w99 gb2 2 (.slice Ao1 x5.length co2)∧w99.cell? (ad2.add ((t4).toNat*2))=some (.int .i64 ((rd_T36 x6 t4).f0))∧w99.cell? ⟨(ad2.add ((t4).toNat*2)).block,(ad2.add ((t4).toNat*2)).off+1,none⟩=some (.int .i64 ((rd_T36 x6 t4).f1)):=hS_
 obtain ⟨Ao5,co6,eo6⟩:=Kd.R_slice HO6.out
 (first|subst eo6|(injection eo6 with f1_ f2_ f3_;have f4_:=f1_.symm;have f5_:=f3_.symm;clear f1_ f2_ f3_;subst f4_;subst f5_))
 refine norm_ (a':=?_) ?_ ?_
 rotate_left;{
 simp only [putAll,Act.put,si,s0,s1]
 rfl}
 refine o1_ 11 (some 80) (m_ 15 8191) rfl rfl (oo HT_) (fun K hK=>?_)
 refine Kd.R_append_rows_step k36 (w0:=w) w.heap.size (by rfl) (.tmp 74) (.tmp 79) 29 36 (.agg #[(.int .i64 0),(.int .i64 0)]) 16 rfl Tryd.underlying29 info36 rfl (by decide) (by omega) (.slice Ao2 x1.length co3) x1 y3 _ _ _ (fun k_=>some k_≠(.slice (some ad2) x6.length co1:Value).ownBlock∧some k_≠(.slice Ao5 y3.length co6:Value).ownBlock) (fun _=>False) rfl rfl ?aO ?aR (fun _ _ h=>h) (fun _ h=>h.elim) ?aF ?aB ?aS ?aL ?_
 (case aR=>exact rc HO6)
 (case aB=>exact (bf HB))
 (case aF=>exact (fun k_ hk=>⟨Kd.fresh' (Kd.R_lt (Rt_ HO3.out)) k_ hk,Kd.fresh' (rl HO6) k_ hk⟩))
 (case aO=>exact (Rt_ (Kd.R_mono HO0.out (fun _ hk=>⟨hk.2,hk.1⟩))))
 (case aS=>exact (below_size (bf HB)))
 (case aL=>have:=LMc1.out;omega)
 intro v10 w24 ho hb hg hat
 rw [← Ny5.out] at ho
 have n0:=am (Kd.R_after (ok:=(fun k_=>some k_≠(.slice Ao5 y3.length co6:Value).ownBlock)) (Rt_ HO3.out) hg hat)
 have n1:=am (blk_grown (g:=gb0) (o:=.cells #[.string a0,.slice A0 l2.length c0,.slice A2 l3.length c4,.slice A3 l4.length c5,.slice (some ad0) l5.length c9,.slice A5 l6.length c10,.int .i64 a1] 28 (0,0)) (bx BK0) hg (Kd.R_ne HO0.out BK0.out (by decide)))
 have n2:=am (blk_grown (g:=gb1) (o:=.cells #[.int .i64 x8,.int .i64 x9,.slice none 0 0] 39 (0,0)) (bx BK1) hg (Kd.R_ne HO0.out BK1.out (by decide)))
 have n3:=am (blk_grown (g:=gb2) (o:=.cells #[.int .i64 0,.int .i64 0,.slice Ao1 x5.length co2] 39 (0,0)) (bx BK2) hg (Kd.R_ne HO0.out BK2.out (by decide)))
 have n4:=am (blk_grown (g:=gb3) (o:=.cells #[.slice A6 ((rd_T33 l5 x2).f0).length c49] 33 (0,0)) (bx BK3) hg (Kd.R_ne HO0.out BK3.out (by decide)))
 have n5:=am (Kd.R_over' (Rt_ HO4.out) (Kd.R_typed (Rt_ HO0.out)) (by decide) hg)
 have n6:=am (Kd.R_over' (Rt_ HO5.out) (Kd.R_typed (Rt_ HO0.out)) (by decide) hg)
 have n7:=am (Kd.R_after (ok:=(fun k_=>some k_≠(.slice (some ad2) x6.length co1:Value).ownBlock)) (Rt_ HO6.out) hg hat)
 have n8:=am (hb)
 have n9:=am (ho)
 clear HO3
 clear BK0
 clear BK1
 clear BK2
 clear BK3
 clear HO4
 clear HO5
 clear HO6
 clear HB
 clear HO0
 have HO3:=n0
 have BK0:=n1
 have BK1:=n2
 have BK2:=n3
 have BK3:=n4
 have HO4:=n5
 have HO5:=n6
 have HO6:=n7
 have HB:=n8
 have HO7:=n9
 clear n0 n1 n2 n3 n4 n5 n6 n7 n8 n9
 clear ho hb hg hat
 obtain ⟨Ao6,co7,eo7⟩:=Kd.R_slice HO5.out
 (first|subst eo7|(injection eo7 with f1_ f2_ f3_;have f4_:=f1_.symm;have f5_:=f3_.symm;clear f1_ f2_ f3_;subst f4_;subst f5_))
 obtain ⟨ad397z,e397z,hx397_0z,hx397_1z⟩:=at_T36 (Kd.R_reads' HO3.out).2.2 t4 (by first|exact p5|exact of_eq_true p5) (by first|exact q4|exact of_eq_true q4)
 cases e397z
 refine hK.out _ _ ⟨ct BK2 0,ct BK2 1,ct BK2 2,hx397_0z,hx397_1z⟩ (fun hHeld=>?_)
 clear hK K
 refine nr_ (some 80) ?_
 refine last_ (i:=13) (N:=none) (m_ 15 16383) rfl rfl (one_of HT_.out (by kernel_rfl)) (by decide) (fun K hK=>?_)
 have hs0:c_ w24 gb2 2 (.slice Ao1 x5.length co2):=ct BK2 2
 have hfs0:=blk_frozen BK2.out 2
 have hns0:=NB2.out
 have hns1:=NB4.out
 have hns2:=NB11.out
 have hms0:=NB3.out
 have hms1:=NB5.out
 have hms2:=NB10.out
 refine skip_ (w1:=?_) (by rfl) rfl ?_ ?_
 rotate_left;{
 go_simp
 rfl}
 refine hK.out _ _ ?_
 clear hK K
 refine pu_ 14 (some 8) (m_ 15 32767) rfl rfl (ao HT_) ?_
 refine done_ (done_of HT_.out (by kernel_rfl)) ?_
 try go_wp2
 go_roundg k3
 case measure=>have:=HJ2.out;have:=HK2.out;have:=HK3.out;omega
 case rel=>exact ⟨(y5),(wrap64 (x2+1)),(x8),(x9),(y4),(.slice Ao6 y4.length co7),(aq),H',⟨by have:=HJ2.out;have:=HK2.out;have:=HK3.out;omega⟩,⟨Rt_ (Kd.R_mono (Kd.R_far (p:=⟨gb2,2,none⟩) (Kd.R_types HO7.out BK2.out (by decide)) (fun _ hk=>hk.2) (.slice Ao6 y4.length co7)) (fun _ hk=>trivial))⟩,⟨Rt_ (Kd.R_mono (Kd.R_far (p:=⟨gb2,2,none⟩) (Kd.R_types HO5.out BK2.out (by decide)) (fun _ hk=>hk.2) (.slice Ao6 y4.length co7)) (fun _ hk=>trivial))⟩,bu_ BK0,bu_ BK1,bq_ BK2,⟨bf HB⟩⟩};{
 rw [if_neg c87] at H
 exact absurd H (by simp)}};{
 rw [if_neg c86] at H
 exact absurd H (by simp)}};{
 rw [if_neg c85] at H
 exact absurd H (by simp)}};{
 rw [if_neg c84] at H
 exact absurd H (by simp)}}}}};{
 rw [if_neg c24] at H
 exact absurd H (by simp)}};{
 rw [if_neg c23] at H
 exact absurd H (by simp)}};{
 rw [if_neg c22] at H
 exact absurd H (by simp)}};{
 rw [if_neg c21] at H
 exact absurd H (by simp)}};{
 rw [if_neg c20] at H
 have c36:decide (x2<(l5.length:Int))=false:=decide_eq_false c20
 clear c20
 replace H:=bi_ H;obtain ⟨⟨t5,t6,t7⟩,A11,H⟩:=H
 (try dsimp only at H)
 by_cases c71:t7=0;{
 rw [if_pos c71] at H
 have c72:(t7==0)=true:=beq_iff_eq.mpr c71
 have c73:(t7 != 0)=false:=bne_eq_false_iff_eq.mpr c71
 clear c71
 simp only [Option.some.injEq,Prod.mk.injEq] at H
 obtain ⟨rfl,rfl,rfl,rfl⟩:=H
 obtain ⟨Ao7,co8,eo8⟩:=Kd.R_slice HO0.out
 subst eo8
 go_wp2_with (first|((with_reducible refine gc 22 rfl ?_);refine gm_ (some 85) rfl rfl Tryd.func22 (frac_Sum.calls _ _ _ _ _ _ _ _ ?side1 ?side2 A11.out (tt GT)) ag ?_;(case side1=>repeat (first|exact (Kd.R_reads' HO0.out).2.2|(with_reducible refine Kd.C_alloc ?_ _)|(with_reducible refine Kd.C_drewN ?_ _)|(with_reducible refine Kd.C_drew ?_)));(case side2=>exact (Kd.R_reads' HO0.out).2.1);intro w26 hb;replace HO0:=am (Kd.R_below (Rt_ HO0.out) hb);replace HO1:=am (Kd.R_below (Rt_ HO1.out) hb);replace BK0:=bb BK0 hb;replace BK1:=bb BK1 hb;replace BK2:=bb BK2 hb;replace HB:=bs HB hb;(try clear hb))|((with_reducible refine gd 17 rfl ?_);refine bx_ 17 36 #[.int .i64 0,.int .i64 0] rfl rfl ?_;intro gb7 hg w27 BK6 hb;have GE6:=bz HB hg;have ⟨NB30,NB31⟩:=nb BK0 hg;have ⟨NB32,NB33⟩:=nb BK1 hg;have ⟨NB34,NB35⟩:=nb BK2 hg;replace HO0:=am (Kd.R_below (Kd.R_elderB (Rt_ HO0.out) gb7 (Nat.le_of_eq hg.symm)) hb);replace HO1:=am (Kd.R_below (Rt_ HO1.out) hb);replace BK0:=bb BK0 hb;replace BK1:=bb BK1 hb;replace BK2:=bb BK2 hb;replace HB:=bs HB hb;clear hb hg;have hnb45:=nn NB31;have hnb49:=nn NB33;have hnb50:=nn NB35;have hcz16:=X.k2 BK6;have hnb51:=nn NB3;have hnb57:=nn NB5;have hcz17:=X.k3 BK2;have hnb58:=nn NB1;have hcz18:=X.k3 BK1;obtain ⟨Ao8,co9,eo9⟩:=Kd.R_slice HO1.out;subst eo9))
 refine bodyPost_ret (results_ct rfl _ _ gb1 39 #[.int .i64 t5,.int .i64 t6,.slice Ao8 x5.length co9] (0,0) _ rfl (br_ BK1) Tryd.underlying39 rfl (by kernel_rfl)) rfl ?_
 exact ⟨_,ae,by (with_reducible repeat (first|apply Kd.R_alloc|apply Kd.R_drewN|apply Kd.R_drew));exact Kd.R_mono (Kd.R_far (p:=⟨gb1,2,none⟩) (Kd.R_far (p:=⟨gb1,1,none⟩) (Kd.R_far (p:=⟨gb1,0,none⟩) (Kd.R_far (p:=⟨gb2,1,none⟩) (Kd.R_far (p:=⟨gb2,0,none⟩) (Kd.R_far (p:=⟨gb7,1,none⟩) (Kd.R_far (p:=⟨gb7,0,none⟩) (Kd.R_types (Kd.R_types (Kd.R_types HO1.out BK6.out (by decide)) BK2.out (by decide)) BK1.out (by decide)) (fun _ hk=>hk.1.1.2) (.int .i64 t5)) (fun _ hk=>hk.1.1.2) (.int .i64 t6)) (fun _ hk=>hk.1.2) (.int .i64 t5)) (fun _ hk=>hk.1.2) (.int .i64 t6)) (fun _ hk=>hk.2) (.int .i64 t5)) (fun _ hk=>hk.2) (.int .i64 t6)) (fun _ hk=>hk.2) (.slice Ao8 x5.length co9)) (fun _ hk=>trivial),bf HB⟩};{
 rw [if_neg c71] at H
 have c72:(t7==0)=false:=beq_eq_false_iff_ne.mpr c71
 have c73:(t7 != 0)=true:=bne_iff_ne.mpr c71
 simp only [Option.some.injEq,Prod.mk.injEq] at H
 obtain ⟨rfl,rfl,rfl,rfl⟩:=H
 obtain ⟨Ao9,co10,eo10⟩:=Kd.R_slice HO0.out
 subst eo10
 go_wp2_with (first|((with_reducible refine gc 22 rfl ?_);refine gm_ (some 85) rfl rfl Tryd.func22 (frac_Sum.calls _ _ _ _ _ _ _ _ ?side1 ?side2 A11.out (tt GT)) ag ?_;(case side1=>repeat (first|exact (Kd.R_reads' HO0.out).2.2|(with_reducible refine Kd.C_alloc ?_ _)|(with_reducible refine Kd.C_drewN ?_ _)|(with_reducible refine Kd.C_drew ?_)));(case side2=>exact (Kd.R_reads' HO0.out).2.1);intro w28 hb;replace HO0:=am (Kd.R_below (Rt_ HO0.out) hb);replace HO1:=am (Kd.R_below (Rt_ HO1.out) hb);replace BK0:=bb BK0 hb;replace BK1:=bb BK1 hb;replace BK2:=bb BK2 hb;replace HB:=bs HB hb;(try clear hb))|((with_reducible refine gd 17 rfl ?_);refine bx_ 17 36 #[.int .i64 0,.int .i64 0] rfl rfl ?_;intro gb7 hg w29 BK6 hb;have GE6:=bz HB hg;have ⟨NB30,NB31⟩:=nb BK0 hg;have ⟨NB32,NB33⟩:=nb BK1 hg;have ⟨NB34,NB35⟩:=nb BK2 hg;replace HO0:=am (Kd.R_below (Kd.R_elderB (Rt_ HO0.out) gb7 (Nat.le_of_eq hg.symm)) hb);replace HO1:=am (Kd.R_below (Rt_ HO1.out) hb);replace BK1:=bb BK1 hb;replace HB:=bs HB hb;clear hb hg;have hnb59:=nn NB31;have hnb60:=nn NB33;have hnb61:=nn NB35;have hcz20:=X.k2 BK6;have hnb62:=nn NB1;have hnb67:=nn NB4;have hcz21:=X.k3 BK1))
 refine bodyPost_ret (results_ct rfl _ _ gb1 39 #[.int .i64 0,.int .i64 0,.slice none 0 0] (0,0) _ rfl (br_ BK1) Tryd.underlying39 rfl (by kernel_rfl)) rfl ?_
 exact ⟨_,ae,by first|exact Kd.R_nil _ _ _ _ _|exact Kd.N_nil _ _ _ _ _|exact Kd.V_nil _ _ _ _ _|exact Kd.Q_nil _ _ _ _ _|exact Kd.S_nil _ _ _ _ _,bf HB⟩}}}}}}}
end Go.Proofs.YtenphnkiacfmiaaDoor.X
