/- Walks: each '.calls' says that the Go function comes to what its Lean function tells. Conditions: as each theorem's head says. -/
import Derived.Test.YtenphnkiacfmiaaDoorXD
import Derived.Test.YtenphnkiacfmiaaDoorX0
import Derived.Test.YtenphnkiacfmiaaDoorX14
import Derived.Test.YtenphnkiacfmiaaDoorX16
namespace Go.Proofs.YtenphnkiacfmiaaDoor.X
open Go.RowKit Go.Proofs.YtenphnkiacfmiaaDoorW.PrintWords Go.Proofs.YtenphnkiacfmiaaDoorW.PrintLast Go.Proofs.YtenphnkiacfmiaaDoorW.PrintMore
attribute [local go_sem] max2_int min2_int max_two min_two max_three min_three max_four min_four
set_option linter.unusedVariables false
set_option maxHeartbeats 8000000
set_option maxRecDepth 100000
set_option linter.unusedSimpArgs false
theorem crit_Rank.calls (k:Nat) (a0:ByteArray) (A0:Option Addr) (c0:Nat) (l2:List (S96)) (A2:Option Addr) (c2:Nat) (l3:List (S98)) (A4:Option Addr) (c3:Nat) (l4:List (S61)) (A5:Option Addr) (c5:Nat) (l5:List (S33)) (A6:Option Addr) (c6:Nat) (l6:List (S100)) (a1:Int) (A1:Option Addr) (c1:Nat) (l1:List (S36)) (r:List Int) (w:World) (hr0:Kd.C k96 w A0 l2.length l2) (hc0:l2.length≤c0) (hr2:Kd.C k98 w A2 l3.length l3) (hc2:l3.length≤c2) (hr3:Kd.C k61 w A4 l4.length l4) (hc3:l4.length≤c3) (hr4:Kd.C k33 w A5 l5.length l5) (hc4:l5.length≤c5) (hr5:Kd.C k100 w A6 l6.length l6) (hc5:l6.length≤c6) (hr1:Kd.C k36 w A1 l1.length l1) (hc1:l1.length≤c1) (h:crit_Rank.f k a0 l2 l3 l4 l5 l6 a1 l1=some r) (hT:TabOK w) :
  Calls Tryd.prog 17 #[.agg #[.string a0,.slice A0 l2.length c0,.slice A2 l3.length c2,.slice A4 l4.length c3,.slice A5 l5.length c5,.slice A6 l6.length c6,.int .i64 a1],.slice A1 l1.length c1] w fun e w'=>∃ v0:Value,e=.returned (v0)∧Kd.R (Kd.int .i64) 3 w' w.heap.size (fun _=>True) v0 r∧Below w.heap.size w w':=by
 have GT:=am hT
 clear hT
 have hu0:=Tryd.underlying28
 have hu1:=Tryd.underlying39
 have HR0:=am hr0
 have HC0:=am hc0
 clear hr0 hc0
 have HR2:=am hr2
 have HC2:=am hc2
 clear hr2 hc2
 have HR3:=am hr3
 have HC3:=am hc3
 clear hr3 hc3
 have HR4:=am hr4
 have HC4:=am hc4
 clear hr4 hc4
 have HR5:=am hr5
 have HC5:=am hc5
 clear hr5 hc5
 have HR1:=am hr1
 have HC1:=am hc1
 clear hr1 hc1
 have HB:=am (Below.refl w.heap.size w)
 have H:((crit_Sum.f k a0 l2 l3 l4 l5 l6 a1 l1).bind fun bt0=>(if bt0.2.2.2=0 then (crit_Rank.l0 k ([]:List Int) bt0.2.2.1 (bt0.2.2.1.length:Int) 0 a0 l2 l3 l4 l5 l6 a1) else (some ([]:List Int))))=some r:=h
 clear h
 replace H:=bi_ H;obtain ⟨⟨t0,t1,t2,t3⟩,A3,H⟩:=H
 (try dsimp only at H)
 by_cases c4:t3=0;{
 rw [if_pos c4] at H
 have c8:(t3==0)=true:=beq_iff_eq.mpr c4
 have c10:(t3 != 0)=false:=bne_eq_false_iff_eq.mpr c4
 clear c4
 have H':=am H
 clear H
 go_enter Tryd.func17,Tryd.ntmps17
 go_wp2_with (first|((with_reducible refine gd 2 rfl ?_);refine bx_ 2 28 #[.string a0,.slice A0 l2.length c0,.slice A2 l3.length c2,.slice A4 l4.length c3,.slice A5 l5.length c5,.slice A6 l6.length c6,.int .i64 a1] rfl rfl ?_;intro gb0 hg w5 BK0 hb;have GE0:=bz HB hg;replace HB:=bs HB hb;clear hb hg;have hcz6:=X.k7 BK0)|((with_reducible refine gc 7 rfl ?_);refine gl_ (some 16) rfl rfl Tryd.func7 ((crit_Sum.calls _ _ _ _ _ _ _ _ _ _ _ _ _ _ _ _ _ _ _ _ _ _ _ _ _ _ ?side1 ?side2 ?side3 ?side4 ?side5 ?side6 ?side7 ?side8 ?side9 ?side10 ?side11 ?side12 A3.out (tt GT)).mono ?_) ag;(case side1=>repeat (first|exact (Kd.C_below HR0.out HB.out)|(with_reducible refine Kd.C_alloc ?_ _)|(with_reducible refine Kd.C_drewN ?_ _)|(with_reducible refine Kd.C_drew ?_)));(case side2=>exact HC0.out);(case side3=>repeat (first|exact (Kd.C_below HR2.out HB.out)|(with_reducible refine Kd.C_alloc ?_ _)|(with_reducible refine Kd.C_drewN ?_ _)|(with_reducible refine Kd.C_drew ?_)));(case side4=>exact HC2.out);(case side5=>repeat (first|exact (Kd.C_below HR3.out HB.out)|(with_reducible refine Kd.C_alloc ?_ _)|(with_reducible refine Kd.C_drewN ?_ _)|(with_reducible refine Kd.C_drew ?_)));(case side6=>exact HC3.out);(case side7=>repeat (first|exact (Kd.C_below HR4.out HB.out)|(with_reducible refine Kd.C_alloc ?_ _)|(with_reducible refine Kd.C_drewN ?_ _)|(with_reducible refine Kd.C_drew ?_)));(case side8=>exact HC4.out);(case side9=>repeat (first|exact (Kd.C_below HR5.out HB.out)|(with_reducible refine Kd.C_alloc ?_ _)|(with_reducible refine Kd.C_drewN ?_ _)|(with_reducible refine Kd.C_drew ?_)));(case side10=>exact HC5.out);(case side11=>repeat (first|exact (Kd.C_below HR1.out HB.out)|(with_reducible refine Kd.C_alloc ?_ _)|(with_reducible refine Kd.C_drewN ?_ _)|(with_reducible refine Kd.C_drew ?_)));(case side12=>exact HC1.out);rintro e w7 ⟨v1,rfl,ho0,hb⟩;refine ⟨_,rfl,?_⟩;have HO0:=am (Kd.R_lower ho0 (below_size (bf HB)));replace BK0:=bb BK0 hb;replace HB:=bs HB hb;(try clear hb);(try clear ho0))|((with_reducible refine gd 5 rfl ?_);refine bx_ 5 39 #[.int .i64 0,.int .i64 0,.slice none 0 0] rfl rfl ?_;intro gb1 hg w8 BK1 hb;have GE1:=bz HB hg;have ⟨NB0,NB1⟩:=nb BK0 hg;replace HO0:=rb HO0 hb;replace BK0:=bb BK0 hb;replace HB:=bs HB hb;clear hb hg;have hnb9:=nn NB1;have hcz0:=X.k3 BK1;obtain ⟨Ao0,co0,eo0⟩:=Kd.R_slice HO0.out;subst eo0))
 go_loopg [7,24] k (fun kq v7 v2 w'=>∃ (x0:List Int) (x1:Int),v2=.int .i64 x1∧Aside0 (crit_Rank.l0 kq x0 t2 (t2.length:Int) x1 a0 l2 l3 l4 l5 l6 a1=some r)∧Aside0 (kq≤k)∧Aside0 (Kd.R (Kd.int .i64) 3 w' w.heap.size (fun k_=>some k_≠((.slice Ao0 t2.length co0):Value).ownBlock∧some k_≠((.slice Ao0 t2.length co0):Value).ownBlock) v7 x0)∧Aside0 (Kd.R (Kd.int .i64) 3 w' w.heap.size (fun k_=>some k_≠(v7:Value).ownBlock) (.slice Ao0 t2.length co0) t2)∧Aside0 (Kd.R (Kd.int .i64) 3 w' w.heap.size (fun k_=>some k_≠(v7:Value).ownBlock) (.slice Ao0 t2.length co0) t2)∧Aside0 (w'.heap[gb0]?=some (.cells #[.string a0,(.slice A0 l2.length c0),(.slice A2 l3.length c2),(.slice A4 l4.length c3),(.slice A5 l5.length c5),(.slice A6 l6.length c6),.int .i64 a1] 28 (0,0)))∧Aside0 (w'.heap[gb1]?=some (.cells #[.int .i64 t0,.int .i64 t1,(.slice Ao0 t2.length co0)] 39 (0,0)))∧Aside0 (Below w.heap.size w w'))
 case atStart=>exact ⟨(([]:List Int)),(0),(aq),H',⟨Nat.le_refl _⟩,⟨by first|exact Kd.R_nil _ _ _ _ _|exact Kd.N_nil _ _ _ _ _|exact Kd.V_nil _ _ _ _ _|exact Kd.Q_nil _ _ _ _ _|exact Kd.S_nil _ _ _ _ _⟩,⟨Rt_ (Kd.R_mono (Kd.R_far (p:=⟨gb1,2,none⟩) (Kd.R_far (p:=⟨gb1,1,none⟩) (Kd.R_far (p:=⟨gb1,0,none⟩) (Kd.R_types HO0.out BK1.out (by decide)) (fun _ hk=>hk.2) (.int .i64 t0)) (fun _ hk=>hk.2) (.int .i64 t1)) (fun _ hk=>hk.2) (.slice Ao0 t2.length co0)) (fun _ hk=>(by simp [Value.ownBlock])))⟩,⟨Rt_ (Kd.R_mono (Kd.R_far (p:=⟨gb1,2,none⟩) (Kd.R_far (p:=⟨gb1,1,none⟩) (Kd.R_far (p:=⟨gb1,0,none⟩) (Kd.R_types HO0.out BK1.out (by decide)) (fun _ hk=>hk.2) (.int .i64 t0)) (fun _ hk=>hk.2) (.int .i64 t1)) (fun _ hk=>hk.2) (.slice Ao0 t2.length co0)) (fun _ hk=>(by simp [Value.ownBlock])))⟩,bu_ BK0,bq_ BK1,⟨bf HB⟩⟩
 case round =>skip;{
 clear H'
 (try clear c1);(try clear p2);(try clear c4);(try clear c8);(try clear c10);(try clear c7);(try clear c9);(try clear hcz0);(try clear hcz6)
 obtain ⟨x0,x1,rfl,HA,HK1,HO1,HO2,HO3,BK0,BK1,HB⟩:=hrel
 cases gk with
 | zero=>exact absurd HA.out (by simp [crit_Rank.l0])
 | succ k1 =>skip;{
 have H:=HA.out
 clear HA
 simp only [crit_Rank.l0] at H
 by_cases c12:x1<(t2.length:Int);{
 rw [if_pos c12] at H
 have c19:decide (x1<(t2.length:Int))=true:=decide_eq_true c12
 clear c12
 by_cases c13:0≤x1;{
 rw [if_pos c13] at H
 have c26:decide (0≤x1)=true:=decide_eq_true c13
 clear c13
 by_cases c14:x1<(t2.length:Int);{
 rw [if_pos c14] at H
 have c28:decide (x1<(t2.length:Int))=true:=decide_eq_true c14
 clear c14
 by_cases c15:x1<(l5.length:Int);{
 rw [if_pos c15] at H
 have c30:decide (x1<(l5.length:Int))=true:=decide_eq_true c15
 clear c15
 by_cases c16:0≤(rd t2 x1);{
 rw [if_pos c16] at H
 have c32:decide (0≤(rd t2 x1))=true:=decide_eq_true c16
 clear c16
 by_cases c17:(rd t2 x1)<(((rd_T33 l5 x1).f0).length:Int);{
 rw [if_pos c17] at H
 have c34:decide ((rd t2 x1)<(((rd_T33 l5 x1).f0).length:Int))=true:=decide_eq_true c17
 clear c17
 have H':=am H
 clear H
 have p0:0≤(x1:Int):=od_
 have q0:x1<(t2.length:Int):=od_
 obtain ⟨ad0,e0,hx0⟩:=Kd.at_int (Kd.R_reads' HO2.out).2.2 x1 p0 q0
 cases e0
 replace p0:=eq_true p0
 replace q0:=eq_true q0
 have hnb0:=nn NB0
 have hcz1:=X.k7 BK0
 have p1:0≤(x1:Int):=od_
 have q1:x1<(l5.length:Int):=od_
 obtain ⟨ad1,A7,c35,e1,hx1,hl0,hi0⟩:=at_T33 HR4.out x1 p1 q1
 cases e1
 replace hx1:=hx_ HB hx1
 have HR6:=am hi0
 have HC6:=am hl0
 clear hi0 hl0
 replace p1:=eq_true p1
 replace q1:=eq_true q1
 have p3:0≤((rd t2 x1):Int):=od_
 have q2:(rd t2 x1)<(((rd_T33 l5 x1).f0).length:Int):=od_
 obtain ⟨ad2,A8,c36,e2,hx2,hx3,hl1,hi1⟩:=at_T63 HR6.out (rd t2 x1) p3 q2
 cases e2
 replace hx2:=hx_ HB hx2
 replace hx3:=hx_ HB hx3
 have HR7:=am hi1
 have HC7:=am hl1
 clear hi1 hl1
 replace p3:=eq_true p3
 replace q2:=eq_true q2
 go_wp2
 go_loopg [7,40] k1 (fun kq v7 v3 w'=>∃ (x2:List Int) (x3:Int),v3=.int .i64 x3∧Aside0 (crit_Rank.l1 kq x2 t2 (t2.length:Int) x1 ((rd_T63 ((rd_T33 l5 x1).f0) (rd t2 x1)).f1) (((rd_T63 ((rd_T33 l5 x1).f0) (rd t2 x1)).f1).length:Int) x3 a0 l2 l3 l4 l5 l6 a1=some r)∧Aside0 (kq≤k1)∧Aside0 (Kd.R (Kd.int .i64) 3 w' w.heap.size (fun k_=>some k_≠((.slice (some ad0) t2.length co0):Value).ownBlock∧some k_≠((.slice (some ad0) t2.length co0):Value).ownBlock) v7 x2)∧Aside0 (Kd.R (Kd.int .i64) 3 w' w.heap.size (fun k_=>some k_≠(v7:Value).ownBlock) (.slice (some ad0) t2.length co0) t2)∧Aside0 (Kd.R (Kd.int .i64) 3 w' w.heap.size (fun k_=>some k_≠(v7:Value).ownBlock) (.slice (some ad0) t2.length co0) t2)∧Aside0 (w'.heap[gb0]?=some (.cells #[.string a0,(.slice A0 l2.length c0),(.slice A2 l3.length c2),(.slice A4 l4.length c3),(.slice (some ad1) l5.length c5),(.slice A6 l6.length c6),.int .i64 a1] 28 (0,0)))∧Aside0 (w'.heap[gb1]?=some (.cells #[.int .i64 t0,.int .i64 t1,(.slice (some ad0) t2.length co0)] 39 (0,0)))∧Aside0 (Below w.heap.size w w'))
 case atStart=>exact ⟨(x0),(0),(aq),H',⟨Nat.le_refl _⟩,⟨Rt_ HO1.out⟩,⟨Rt_ HO2.out⟩,⟨Rt_ HO3.out⟩,bu_ BK0,bu_ BK1,⟨bf HB⟩⟩
 case round =>skip;{
 clear H'
 (try clear c1);(try clear p2);(try clear c4);(try clear c8);(try clear c10);(try clear p4);(try clear q4);(try clear hx4);(try clear c7);(try clear c9);(try clear c12);(try clear c19);(try clear c13);(try clear c26);(try clear c14);(try clear c28);(try clear c15);(try clear c30);(try clear c16);(try clear c32);(try clear c17);(try clear c34);(try clear c18);(try clear hcz0);(try clear hcz1);(try clear hcz6);(try clear hx0);(try clear hx1);(try clear hx2);(try clear hx3);(try clear p2);(try clear p0);(try clear p1);(try clear p3);(try clear q0);(try clear q1);(try clear q2)
 obtain ⟨x2,x3,rfl,HA,HK2,HO1,HO2,HO3,BK0,BK1,HB⟩:=hrel
 cases gk with
 | zero=>exact absurd HA.out (by simp [crit_Rank.l1])
 | succ k2 =>skip;{
 have H:=HA.out
 clear HA
 simp only [crit_Rank.l1] at H
 by_cases c20:x3<(((rd_T63 ((rd_T33 l5 x1).f0) (rd t2 x1)).f1).length:Int);{
 rw [if_pos c20] at H
 have c39:decide (x3<(((rd_T63 ((rd_T33 l5 x1).f0) (rd t2 x1)).f1).length:Int))=true:=decide_eq_true c20
 clear c20
 by_cases c21:0≤x3;{
 rw [if_pos c21] at H
 have c41:decide (0≤x3)=true:=decide_eq_true c21
 clear c21
 by_cases c22:x3<(((rd_T63 ((rd_T33 l5 x1).f0) (rd t2 x1)).f1).length:Int);{
 rw [if_pos c22] at H
 have c43:decide (x3<(((rd_T63 ((rd_T33 l5 x1).f0) (rd t2 x1)).f1).length:Int))=true:=decide_eq_true c22
 clear c22
 replace H:=bi_ H;obtain ⟨t4,A9,H⟩:=H
 (try dsimp only at H)
 by_cases c24:t4≥0;{
 rw [if_pos c24] at H
 have c45:decide (0≤t4)=true:=decide_eq_true c24
 clear c24
 by_cases c25:x2.length<17592186044416;{
 rw [if_pos c25] at H
 have LMc0:=am c25
 clear c25
 obtain ⟨y0,hy0⟩:∃ y_:List Int,y_=(x2++[t4]):=⟨_,rfl⟩
 replace H:(crit_Rank.l1 k2 y0 t2 (t2.length:Int) x1 ((rd_T63 ((rd_T33 l5 x1).f0) (rd t2 x1)).f1) (((rd_T63 ((rd_T33 l5 x1).f0) (rd t2 x1)).f1).length:Int) (wrap64 (x3+1)) a0 l2 l3 l4 l5 l6 a1)=some r:=by first|(rw [hy0];with_reducible exact H)|(have H0:=(Option.bind_some _ _).symm.trans H;rw [hy0];with_reducible exact H0)|(have H0:=(Option.bind_some _ _).symm.trans H;with_reducible exact H0)|with_reducible exact H|(rw [hy0];exact H)|exact H
 have Ny0:=am hy0
 clear hy0
 have H':=am H
 clear H
 have p5:0≤(x3:Int):=od_
 have q3:x3<(((rd_T63 ((rd_T33 l5 x1).f0) (rd t2 x1)).f1).length:Int):=od_
 obtain ⟨ad3,e3,hx5⟩:=Kd.at_string HR7.out x3 p5 q3
 cases e3
 replace hx5:=hx_ HB hx5
 replace p5:=eq_true p5
 replace q3:=eq_true q3
 have hnb1:=nn NB0
 have hcz2:=X.k7 BK0
 go_wp2_with (first|((with_reducible refine gc 38 rfl ?_);refine gm_ (some 46) rfl rfl Tryd.func38 (valid_Phase.calls _ _ _ _ _ _ _ _ _ _ _ _ _ _ _ _ _ (rdOf ByteArray.empty ((rd_T63 ((rd_T33 l5 x1).f0) (rd t2 x1)).f1) x3) _ _ ?side1 ?side2 ?side3 ?side4 ?side5 ?side6 ?side7 ?side8 ?side9 ?side10 A9.out) ag ?_;(case side1=>repeat (first|exact (Kd.C_below HR0.out HB.out)|(with_reducible refine Kd.C_alloc ?_ _)|(with_reducible refine Kd.C_drewN ?_ _)|(with_reducible refine Kd.C_drew ?_)));(case side2=>exact HC0.out);(case side3=>repeat (first|exact (Kd.C_below HR2.out HB.out)|(with_reducible refine Kd.C_alloc ?_ _)|(with_reducible refine Kd.C_drewN ?_ _)|(with_reducible refine Kd.C_drew ?_)));(case side4=>exact HC2.out);(case side5=>repeat (first|exact (Kd.C_below HR3.out HB.out)|(with_reducible refine Kd.C_alloc ?_ _)|(with_reducible refine Kd.C_drewN ?_ _)|(with_reducible refine Kd.C_drew ?_)));(case side6=>exact HC3.out);(case side7=>repeat (first|exact (Kd.C_below HR4.out HB.out)|(with_reducible refine Kd.C_alloc ?_ _)|(with_reducible refine Kd.C_drewN ?_ _)|(with_reducible refine Kd.C_drew ?_)));(case side8=>exact HC4.out);(case side9=>repeat (first|exact (Kd.C_below HR5.out HB.out)|(with_reducible refine Kd.C_alloc ?_ _)|(with_reducible refine Kd.C_drewN ?_ _)|(with_reducible refine Kd.C_drew ?_)));(case side10=>exact HC5.out);intro w1 hb;replace HO1:=am (Kd.R_below (Rt_ HO1.out) hb);replace HO2:=am (Kd.R_below (Rt_ HO2.out) hb);replace HO3:=am (Kd.R_below (Rt_ HO3.out) hb);replace BK0:=bb BK0 hb;replace BK1:=bb BK1 hb;replace HB:=bs HB hb;(try clear hb))|((with_reducible refine gate_builtin (b:=.append) (xs:=#[.tmp 49,.tmp 51]) rfl ?_);at_builtin;refine Kd.R_append (Kd.int .i64) (w0:=w) w.heap.size rfl (.tmp 49) (.tmp 51) 37 3 (.int .i64 0) 8 rfl Tryd.underlying37 info3 rfl (by decide) (by omega) u7 x2 t4 [.int .i64 t4] (fun k_=>some k_≠(.slice (some ad0) t2.length co0:Value).ownBlock∧some k_≠(.slice (some ad0) t2.length co0:Value).ownBlock) (fun _=>False) rfl rfl ?aP (fun _ hk=>hk.elim) ?aF ?aO ?aB ?aS ?aL ?_;(case aP=>exact rfl);(case aB=>exact (bf HB));(case aF=>exact (fun k_ hk=>⟨Kd.fresh' (Kd.R_lt (Rt_ HO2.out)) k_ hk,Kd.fresh' (Kd.R_lt (Rt_ HO3.out)) k_ hk⟩));(case aO=>exact (Rt_ HO1.out));(case aS=>exact (below_size (bf HB)));(case aL=>have:=LMc0.out;omega);intro v4 w2 ho hb hg hat;rw [← Ny0.out] at ho;have n0:=am (Kd.R_after (ok:=(fun _=>True)) (Rt_ (Kd.R_mono HO2.out (fun _ hk=>⟨trivial,hk⟩))) hg hat);have n1:=am (Kd.R_after (ok:=(fun _=>True)) (Rt_ (Kd.R_mono HO3.out (fun _ hk=>⟨trivial,hk⟩))) hg hat);have n2:=am (blk_grown (g:=gb0) (o:=.cells #[.string a0,.slice A0 l2.length c0,.slice A2 l3.length c2,.slice A4 l4.length c3,.slice (some ad1) l5.length c5,.slice A6 l6.length c6,.int .i64 a1] 28 (0,0)) (bx BK0) hg (Kd.R_ne HO1.out BK0.out (by decide)));have n3:=am (blk_grown (g:=gb1) (o:=.cells #[.int .i64 t0,.int .i64 t1,.slice (some ad0) t2.length co0] 39 (0,0)) (bx BK1) hg (Kd.R_ne HO1.out BK1.out (by decide)));have n4:=am (hb);have n5:=am (ho);clear HO2;clear HO3;clear BK0;clear BK1;clear HB;clear HO1;have HO2:=n0;have HO3:=n1;have BK0:=n2;have BK1:=n3;have HB:=n4;have HO4:=n5;clear n0 n1 n2 n3 n4 n5;clear ho hb hg hat))
 go_roundg k2
 case measure=>have:=HK1.out;have:=HK2.out;omega
 case rel=>exact ⟨(y0),(wrap64 (x3+1)),(aq),H',⟨by have:=HK1.out;have:=HK2.out;omega⟩,⟨Rt_ HO4.out⟩,⟨Rt_ (Kd.R_mono HO2.out (fun _ hk=>hk.2))⟩,⟨Rt_ (Kd.R_mono HO3.out (fun _ hk=>hk.2))⟩,bu_ BK0,bu_ BK1,⟨bf HB⟩⟩};{
 rw [if_neg c25] at H
 exact absurd H (by simp)}};{
 rw [if_neg c24] at H
 have c45:decide (0≤t4)=false:=decide_eq_false c24
 clear c24
 have H':=am H
 clear H
 have p5:0≤(x3:Int):=od_
 have q3:x3<(((rd_T63 ((rd_T33 l5 x1).f0) (rd t2 x1)).f1).length:Int):=od_
 obtain ⟨ad3,e3,hx5⟩:=Kd.at_string HR7.out x3 p5 q3
 cases e3
 replace hx5:=hx_ HB hx5
 replace p5:=eq_true p5
 replace q3:=eq_true q3
 have hnb2:=nn NB0
 have hcz3:=X.k7 BK0
 go_wp2_with (first|((with_reducible refine gc 38 rfl ?_);refine gm_ (some 46) rfl rfl Tryd.func38 (valid_Phase.calls _ _ _ _ _ _ _ _ _ _ _ _ _ _ _ _ _ (rdOf ByteArray.empty ((rd_T63 ((rd_T33 l5 x1).f0) (rd t2 x1)).f1) x3) _ _ ?side1 ?side2 ?side3 ?side4 ?side5 ?side6 ?side7 ?side8 ?side9 ?side10 A9.out) ag ?_;(case side1=>repeat (first|exact (Kd.C_below HR0.out HB.out)|(with_reducible refine Kd.C_alloc ?_ _)|(with_reducible refine Kd.C_drewN ?_ _)|(with_reducible refine Kd.C_drew ?_)));(case side2=>exact HC0.out);(case side3=>repeat (first|exact (Kd.C_below HR2.out HB.out)|(with_reducible refine Kd.C_alloc ?_ _)|(with_reducible refine Kd.C_drewN ?_ _)|(with_reducible refine Kd.C_drew ?_)));(case side4=>exact HC2.out);(case side5=>repeat (first|exact (Kd.C_below HR3.out HB.out)|(with_reducible refine Kd.C_alloc ?_ _)|(with_reducible refine Kd.C_drewN ?_ _)|(with_reducible refine Kd.C_drew ?_)));(case side6=>exact HC3.out);(case side7=>repeat (first|exact (Kd.C_below HR4.out HB.out)|(with_reducible refine Kd.C_alloc ?_ _)|(with_reducible refine Kd.C_drewN ?_ _)|(with_reducible refine Kd.C_drew ?_)));(case side8=>exact HC4.out);(case side9=>repeat (first|exact (Kd.C_below HR5.out HB.out)|(with_reducible refine Kd.C_alloc ?_ _)|(with_reducible refine Kd.C_drewN ?_ _)|(with_reducible refine Kd.C_drew ?_)));(case side10=>exact HC5.out);intro w3 hb;replace HO1:=am (Kd.R_below (Rt_ HO1.out) hb);replace HO2:=am (Kd.R_below (Rt_ HO2.out) hb);replace HO3:=am (Kd.R_below (Rt_ HO3.out) hb);replace BK0:=bb BK0 hb;replace BK1:=bb BK1 hb;replace HB:=bs HB hb;(try clear hb)))
 go_roundg k2
 case measure=>have:=HK1.out;have:=HK2.out;omega
 case rel=>exact ⟨(x2),(wrap64 (x3+1)),(aq),H',⟨by have:=HK1.out;have:=HK2.out;omega⟩,⟨Rt_ HO1.out⟩,⟨Rt_ HO2.out⟩,⟨Rt_ HO3.out⟩,bu_ BK0,bu_ BK1,⟨bf HB⟩⟩}};{
 rw [if_neg c22] at H
 exact absurd H (by simp)}};{
 rw [if_neg c21] at H
 exact absurd H (by simp)}};{
 rw [if_neg c20] at H
 have c39:decide (x3<(((rd_T63 ((rd_T33 l5 x1).f0) (rd t2 x1)).f1).length:Int))=false:=decide_eq_false c20
 clear c20
 have H':=am H
 clear H
 go_wp2
 go_roundg k2
 case measure=>have:=HK1.out;have:=HK2.out;omega
 case rel=>exact ⟨(x2),(wrap64 (x1+1)),(aq),H',⟨by have:=HK1.out;have:=HK2.out;omega⟩,⟨Rt_ HO1.out⟩,⟨Rt_ HO2.out⟩,⟨Rt_ HO3.out⟩,bu_ BK0,bu_ BK1,⟨bf HB⟩⟩}}}};{
 rw [if_neg c17] at H
 exact absurd H (by simp)}};{
 rw [if_neg c16] at H
 exact absurd H (by simp)}};{
 rw [if_neg c15] at H
 exact absurd H (by simp)}};{
 rw [if_neg c14] at H
 exact absurd H (by simp)}};{
 rw [if_neg c13] at H
 exact absurd H (by simp)}};{
 rw [if_neg c12] at H
 have c19:decide (x1<(t2.length:Int))=false:=decide_eq_false c12
 clear c12
 obtain rfl:=Option.some.inj H
 go_wp2
 go_ret
 exact ⟨_,ae,by (with_reducible repeat (first|apply Kd.R_alloc|apply Kd.R_drewN|apply Kd.R_drew));exact Kd.R_mono HO1.out (fun _ hk=>trivial),bf HB⟩}}}};{
 rw [if_neg c4] at H
 have c8:(t3==0)=false:=beq_eq_false_iff_ne.mpr c4
 have c10:(t3 != 0)=true:=bne_iff_ne.mpr c4
 obtain rfl:=Option.some.inj H
 go_enter Tryd.func17,Tryd.ntmps17
 go_wp2_with (first|((with_reducible refine gd 2 rfl ?_);refine bx_ 2 28 #[.string a0,.slice A0 l2.length c0,.slice A2 l3.length c2,.slice A4 l4.length c3,.slice A5 l5.length c5,.slice A6 l6.length c6,.int .i64 a1] rfl rfl ?_;intro gb0 hg w4 BK0 hb;have GE0:=bz HB hg;replace HB:=bs HB hb;clear hb hg;have hcz4:=X.k7 BK0)|((with_reducible refine gc 7 rfl ?_);refine gl_ (some 16) rfl rfl Tryd.func7 ((crit_Sum.calls _ _ _ _ _ _ _ _ _ _ _ _ _ _ _ _ _ _ _ _ _ _ _ _ _ _ ?side1 ?side2 ?side3 ?side4 ?side5 ?side6 ?side7 ?side8 ?side9 ?side10 ?side11 ?side12 A3.out (tt GT)).mono ?_) ag;(case side1=>repeat (first|exact (Kd.C_below HR0.out HB.out)|(with_reducible refine Kd.C_alloc ?_ _)|(with_reducible refine Kd.C_drewN ?_ _)|(with_reducible refine Kd.C_drew ?_)));(case side2=>exact HC0.out);(case side3=>repeat (first|exact (Kd.C_below HR2.out HB.out)|(with_reducible refine Kd.C_alloc ?_ _)|(with_reducible refine Kd.C_drewN ?_ _)|(with_reducible refine Kd.C_drew ?_)));(case side4=>exact HC2.out);(case side5=>repeat (first|exact (Kd.C_below HR3.out HB.out)|(with_reducible refine Kd.C_alloc ?_ _)|(with_reducible refine Kd.C_drewN ?_ _)|(with_reducible refine Kd.C_drew ?_)));(case side6=>exact HC3.out);(case side7=>repeat (first|exact (Kd.C_below HR4.out HB.out)|(with_reducible refine Kd.C_alloc ?_ _)|(with_reducible refine Kd.C_drewN ?_ _)|(with_reducible refine Kd.C_drew ?_)));(case side8=>exact HC4.out);(case side9=>repeat (first|exact (Kd.C_below HR5.out HB.out)|(with_reducible refine Kd.C_alloc ?_ _)|(with_reducible refine Kd.C_drewN ?_ _)|(with_reducible refine Kd.C_drew ?_)));(case side10=>exact HC5.out);(case side11=>repeat (first|exact (Kd.C_below HR1.out HB.out)|(with_reducible refine Kd.C_alloc ?_ _)|(with_reducible refine Kd.C_drewN ?_ _)|(with_reducible refine Kd.C_drew ?_)));(case side12=>exact HC1.out);rintro e w6 ⟨v1,rfl,ho0,hb⟩;refine ⟨_,rfl,?_⟩;have HO0:=am (Kd.R_lower ho0 (below_size (bf HB)));replace BK0:=bb BK0 hb;replace HB:=bs HB hb;(try clear hb);(try clear ho0))|((with_reducible refine gd 5 rfl ?_);refine bx_ 5 39 #[.int .i64 0,.int .i64 0,.slice none 0 0] rfl rfl ?_;intro gb1 hg w9 BK1 hb;have GE1:=bz HB hg;have ⟨NB0,NB1⟩:=nb BK0 hg;replace HO0:=rb HO0 hb;replace HB:=bs HB hb;clear hb hg;have hnb3:=nn NB1;have hcz5:=X.k3 BK1;obtain ⟨Ao1,co1,eo1⟩:=Kd.R_slice HO0.out;subst eo1))
 go_ret
 exact ⟨_,ae,by first|exact Kd.R_nil _ _ _ _ _|exact Kd.N_nil _ _ _ _ _|exact Kd.V_nil _ _ _ _ _|exact Kd.Q_nil _ _ _ _ _|exact Kd.S_nil _ _ _ _ _,bf HB⟩}
end Go.Proofs.YtenphnkiacfmiaaDoor.X
