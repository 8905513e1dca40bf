/- Walks: each '.calls' says that the Go function comes to what its Lean function tells. Conditions: as each theorem's head says. -/
import Derived.Test.YtenphnkiacfmiaaDoorXD
import Derived.Test.YtenphnkiacfmiaaDoorX0
import Derived.Test.YtenphnkiacfmiaaDoorX20
namespace Go.Proofs.YtenphnkiacfmiaaDoor.X
open Go.RowKit Go.Proofs.YtenphnkiacfmiaaDoorW.PrintWords Go.Proofs.YtenphnkiacfmiaaDoorW.PrintLast Go.Proofs.YtenphnkiacfmiaaDoorW.PrintMore
attribute [local go_sem] max2_int min2_int max_two min_two max_three min_three max_four min_four
set_option linter.unusedVariables false
set_option maxHeartbeats 8000000
set_option maxRecDepth 100000
set_option linter.unusedSimpArgs false
def carrefourref11_Way.T5:Bool × List (List Nat × List Nat):=(true,[([],[]),([0],[0]),([],[]),([1,2],[1,2]),([3],[3]),([4],[4]),([],[]),([],[]),([6,7],[6,7]),([8],[8]),([5,9],[5,9]),([10],[10]),([],[]),([12,11,0,1,2,3,4,5,6,7,8,9,10,11,12],[11,12])])
def carrefourref11_Way.B5:List Nat:=[0,1,0,7,15,31,0,0,192,448,1023,2047,0,8191]
theorem carrefourref11_Way.tab5:rtab .any (opsOf Tryd.f9 5)=carrefourref11_Way.T5:=by kernel_rfl
theorem carrefourref11_Way.bits5:waitsOk carrefourref11_Way.T5.2 carrefourref11_Way.B5=true:=by kernel_rfl
def carrefourref11_Way.T9:Bool × List (List Nat × List Nat):=(true,[([],[]),([],[]),([1],[1]),([],[]),([2,3],[2,3]),([4],[4]),([0,5],[0,5]),([6,6,0,1,2,3,4,5,6],[6])])
def carrefourref11_Way.B9:List Nat:=[0,0,2,0,14,30,63,127]
theorem carrefourref11_Way.tab9:rtab .any (opsOf Tryd.f9 9)=carrefourref11_Way.T9:=by kernel_rfl
theorem carrefourref11_Way.bits9:waitsOk carrefourref11_Way.T9.2 carrefourref11_Way.B9=true:=by kernel_rfl
theorem carrefourref11_Way.calls (k:Nat) (a0:ByteArray) (A0:Option Addr) (c0:Nat) (l2:List (S96)) (A2:Option Addr) (c2:Nat) (l3:List (S98)) (A3:Option Addr) (c3:Nat) (l4:List (S61)) (A4:Option Addr) (c4:Nat) (l5:List (S33)) (A5:Option Addr) (c6:Nat) (l6:List (S100)) (a1:Int) (A1:Option Addr) (c1:Nat) (l1:List Int) (r:List Int) (w:World) (hr0:Kd.C k96 w A0 l2.length l2) (hc0:l2.length≤c0) (hr2:Kd.C k98 w A2 l3.length l3) (hc2:l3.length≤c2) (hr3:Kd.C k61 w A3 l4.length l4) (hc3:l4.length≤c3) (hr4:Kd.C k33 w A4 l5.length l5) (hc4:l5.length≤c4) (hr5:Kd.C k100 w A5 l6.length l6) (hc5:l6.length≤c6) (hr1:Kd.C (Kd.int .i64) w A1 l1.length l1) (hc1:l1.length≤c1) (h:carrefourref11_Way.f k a0 l2 l3 l4 l5 l6 a1 l1=some r) :
  Calls Tryd.prog 9 #[.agg #[.string a0,.slice A0 l2.length c0,.slice A2 l3.length c2,.slice A3 l4.length c3,.slice A4 l5.length c4,.slice A5 l6.length c6,.int .i64 a1],.slice A1 l1.length c1] w fun e w'=>∃ v0:Value,e=.returned (v0)∧Kd.R (Kd.int .i64) 3 w' w.heap.size (fun _=>True) v0 r∧Below w.heap.size w w':=by
 have hu0:=Tryd.underlying28
 have hu1:=Tryd.underlying63
 have HR0:=am hr0
 have HC0:=am hc0
 clear hr0 hc0
 have HR2:=am hr2
 have HC2:=am hc2
 clear hr2 hc2
 have HR3:=am hr3
 have HC3:=am hc3
 clear hr3 hc3
 have HR4:=am hr4
 have HC5:=am hc4
 clear hr4 hc4
 have HR5:=am hr5
 have HC6:=am hc5
 clear hr5 hc5
 have HR1:=am hr1
 have HC1:=am hc1
 clear hr1 hc1
 have HB:=am (Below.refl w.heap.size w)
 have H:(carrefourref11_Way.l0 k l1 ([]:List Int) 0 a0 l2 l3 l4 l5 l6 a1)=some r:=h
 clear h
 have H':=am H
 clear H
 go_enter Tryd.func9,Tryd.ntmps9
 go_wp2_with (first|((with_reducible refine gate_dst (N:=2) rfl ?_);(try (refine gate_guard (by rfl) ?_;dsimp only));refine box_event ?hg (N:=2) ?hd (cs:=#[.string a0,.slice A0 l2.length c0,.slice A2 l3.length c2,.slice A3 l4.length c3,.slice A4 l5.length c4,.slice A5 l6.length c6,.int .i64 a1]) (t:=28) ?hr ?_;(case hd=>rfl);(case hg=>rfl);(case hr=>first|(go_simp;done)|(go_simp;rfl));intro gb0 hg w3 hbox hb;have BK0:=am (hbox);have GE0:=bz HB hg;replace HB:=bs HB hb;clear hb hg))
 go_loopg [5,6] k (fun kq v5 v6 w'=>∃ (x0:List Int) (x1:Int),v6=.int .i64 x1∧Aside0 (carrefourref11_Way.l0 kq l1 x0 x1 a0 l2 l3 l4 l5 l6 a1=some r)∧Aside0 (kq≤k)∧Aside0 (Kd.R (Kd.int .i64) 3 w' w.heap.size (fun _=>True) v5 x0)∧Aside0 (w'.heap[gb0]?=some (.cells #[.string a0,(.slice A0 l2.length c0),(.slice A2 l3.length c2),(.slice A3 l4.length c3),(.slice A4 l5.length c4),(.slice A5 l6.length c6),.int .i64 a1] 28 (0,0)))∧Aside0 (Below w.heap.size w w'))
 case atStart=>exact ⟨(([]:List Int)),(0),(aq),H',⟨Nat.le_refl _⟩,⟨by first|exact Kd.R_nil _ _ _ _ _|exact Kd.N_nil _ _ _ _ _|exact Kd.V_nil _ _ _ _ _|exact Kd.Q_nil _ _ _ _ _|exact Kd.S_nil _ _ _ _ _⟩,bu_ BK0,⟨bf HB⟩⟩
 case round =>skip;{
 clear H'
 (try clear c1);(try clear p2)
 obtain ⟨x0,x1,rfl,HA,HK1,HO0,BK0,HB⟩:=hrel
 cases gk with
 | zero=>exact absurd HA.out (by simp [carrefourref11_Way.l0])
 | succ k1 =>skip;{
 have H:=HA.out
 clear HA
 simp only [carrefourref11_Way.l0] at H
 have HC4:=am H
 clear H
 go_upto_region 3 with (fail)
 go_cut [20] (fun v1 wc=>∃ (kq:Nat) (x2:Bool),v1=.bool x2∧Aside0 (carrefourref11_Way.j1 kq l1 x0 x1 x2 a0 l2 l3 l4 l5 l6 a1=some r)∧Aside0 (kq≤k1)∧Aside0 (Kd.R (Kd.int .i64) 3 wc w.heap.size (fun _=>True) u5 x0)∧Aside0 (wc.heap[gb0]?=some (.cells #[.string a0,(.slice A0 l2.length c0),(.slice A2 l3.length c2),(.slice A3 l4.length c3),(.slice A4 l5.length c4),(.slice A5 l6.length c6),.int .i64 a1] 28 (0,0)))∧Aside0 (Below w.heap.size w wc))
 case first =>skip;{
 have H:=HC4.out
 clear HC4
 by_cases c5:x1<(l5.length:Int);{
 rw [if_pos c5] at H
 have c7:decide (x1<(l5.length:Int))=true:=decide_eq_true c5
 clear c5
 (first|rw [c7]|(simp only [i64_w,i32_w];rw [c7])|skip)
 have H':=am H
 clear H
 have hcz6:=X.k7 BK0
 go_wp2
 go_meet
 case rel=>exact ⟨_,(decide (x1<(l1.length:Int))),(aq),H',⟨by have:=HK1.out;first|omega|exact Nat.le_refl _⟩,⟨Rt_ HO0.out⟩,bu_ BK0,⟨bf HB⟩⟩};{
 rw [if_neg c5] at H
 have c7:decide (x1<(l5.length:Int))=false:=decide_eq_false c5
 clear c5
 (first|rw [c7]|(simp only [i64_w,i32_w];rw [c7])|skip)
 have H':=am H
 clear H
 have hcz7:=X.k7 BK0
 go_wp2
 go_meet
 case rel=>exact ⟨_,(false),(aq),H',⟨by have:=HK1.out;first|omega|exact Nat.le_refl _⟩,⟨Rt_ HO0.out⟩,bu_ BK0,⟨bf HB⟩⟩}}
 case rest =>skip;{
 clear HC4
 (try clear c1);(try clear p2);(try clear c5);(try clear c7);(try clear hcz6);(try clear hcz7);(try clear p2)
 obtain ⟨kq,x2,rfl,HA,HJ3,HO0,BK0,HB⟩:=hcut
 cases kq with
 | zero=>exact absurd HA.out (by simp [carrefourref11_Way.j1])
 | succ kj3 =>skip;{
 have H:=HA.out
 clear HA
 simp only [carrefourref11_Way.j1] at H
 by_cases c8:x2=true;{
 subst c8
 have H1:(if 0≤x1 then (if x1<(l5.length:Int) then (if x1<(l1.length:Int) then (if 0≤(rd l1 x1) then (if (rd l1 x1)<(((rd_T33 l5 x1).f0).length:Int) then (carrefourref11_Way.l1 kj3 l1 x0 x1 0 a0 l2 l3 l4 l5 l6 a1 ((rd_T63 ((rd_T33 l5 x1).f0) (rd l1 x1)).f0) ((rd_T63 ((rd_T33 l5 x1).f0) (rd l1 x1)).f1)) else (none)) else (none)) else (none)) else (none)) else (none))=some r:=by rw [if_pos rfl] at H;exact H
 clear H
 have H:=H1
 clear H1
 by_cases c9:0≤x1;{
 rw [if_pos c9] at H
 have c14:decide (0≤x1)=true:=decide_eq_true c9
 clear c9
 by_cases c10:x1<(l5.length:Int);{
 rw [if_pos c10] at H
 have c16:decide (x1<(l5.length:Int))=true:=decide_eq_true c10
 clear c10
 by_cases c11:x1<(l1.length:Int);{
 rw [if_pos c11] at H
 have c20:decide (x1<(l1.length:Int))=true:=decide_eq_true c11
 clear c11
 by_cases c12:0≤(rd l1 x1);{
 rw [if_pos c12] at H
 have c24:decide (0≤(rd l1 x1))=true:=decide_eq_true c12
 clear c12
 by_cases c13:(rd l1 x1)<(((rd_T33 l5 x1).f0).length:Int);{
 rw [if_pos c13] at H
 have c26:decide ((rd l1 x1)<(((rd_T33 l5 x1).f0).length:Int))=true:=decide_eq_true c13
 clear c13
 have H':=am H
 clear H
 try go_wp2
 replace HO0:=am (Kd.R_drew HO0.out)
 replace BK0:=am (blk_drew BK0.out)
 replace HB:=am (below_drew1 HB.out)
 have p0:0≤(x1:Int):=od_
 have q0:x1<(l5.length:Int):=od_
 obtain ⟨ad0,A6,c27,e0,hx0,hl0,hi0⟩:=at_T33 HR4.out x1 p0 q0
 have hw0:=hx0
 cases e0
 replace hx0:=hx_ HB hx0
 have HR6:=am hi0
 have HC7:=am hl0
 clear hi0 hl0
 replace p0:=eq_true p0
 replace q0:=eq_true q0
 have p1:0≤(x1:Int):=od_
 have q1:x1<(l1.length:Int):=od_
 obtain ⟨ad1,e1,hx1⟩:=Kd.at_int HR1.out x1 p1 q1
 have hw1:=hx1
 cases e1
 replace hx1:=hx_ HB hx1
 replace p1:=eq_true p1
 replace q1:=eq_true q1
 have p3:0≤((rd l1 x1):Int):=od_
 have q2:(rd l1 x1)<(((rd_T33 l5 x1).f0).length:Int):=od_
 obtain ⟨ad2,A7,c28,e2,hx2,hx3,hl1,hi1⟩:=at_T63 HR6.out (rd l1 x1) p3 q2
 have hw2:=hx3
 have hw3:=hx2
 cases e2
 replace hx2:=hx_ HB hx2
 replace hx3:=hx_ HB hx3
 have HR7:=am hi1
 have HC8:=am hl1
 clear hi1 hl1
 replace p3:=eq_true p3
 replace q2:=eq_true q2
 refine start_ (n:=14) (S:=fun w'=>c_ w' gb0 0 (.string a0)∧c_ w' gb0 1 (.slice A0 l2.length c0)∧c_ w' gb0 2 (.slice A2 l3.length c2)∧c_ w' gb0 3 (.slice A3 l4.length c3)∧c_ w' gb0 4 (.slice (some ad0) l5.length c4)∧c_ w' gb0 5 (.slice A5 l6.length c6)∧c_ w' gb0 6 (.int .i64 a1)∧w'.cell? (ad0.add (x1).toNat)=some (.slice (some ad2) ((rd_T33 l5 x1).f0).length c27)∧w'.cell? (ad1.add (x1).toNat)=some (.int .i64 (rd l1 x1))∧w'.cell? (ad2.add (((rd l1 x1)).toNat*2))=some (.bool ((rd_T63 ((rd_T33 l5 x1).f0) (rd l1 x1)).f0))∧w'.cell? ⟨(ad2.add (((rd l1 x1)).toNat*2)).block,(ad2.add (((rd l1 x1)).toNat*2)).off+1,none⟩=some (.slice A7 ((rd_T63 ((rd_T33 l5 x1).f0) (rd l1 x1)).f1).length c28)) (ds:=[]) (m_ 14 0) (by kernel_rfl) rfl rfl ⟨ct BK0 0,ct BK0 1,ct BK0 2,ct BK0 3,ct BK0 4,ct BK0 5,ct BK0 6,(hx_ HB hw0 :),(hx_ HB hw1 :),(hx_ HB hw3 :),(hx_ HB hw2 :)⟩ (fun hHeld=>?_);refine with_tabW carrefourref11_Way.tab5 carrefourref11_Way.bits5 (fun HT_ HW_=>?_)
 generalize wc.drew=w2 at HO0 BK0 HB HR6 HR7 hx0 hx1 hx2 hx3 hHeld ⊢
 refine pu_ 0 (some 23) (m_ 14 1) rfl rfl (ao HT_) ?_
 refine pu_ 2 (some 25) (m_ 14 5) rfl rfl (ao HT_) ?_
 refine pu_ 6 (some 29) (m_ 14 69) rfl rfl (ao HT_) ?_
 refine pu_ 7 (some 30) (m_ 14 197) rfl rfl (ao HT_) ?_
 refine pu_ 8 (some 31) (m_ 14 453) rfl rfl (ao HT_) ?_
 refine tk_ 1 (some 24) (m_ 14 455) rfl rfl (tw HT_ HW_) hHeld ?_
 refine pu_ 3 (some 26) (m_ 14 463) rfl rfl (ao HT_) ?_
 refine pu_ 4 (some 27) (m_ 14 479) rfl rfl (ao HT_) ?_
 refine tk_ 5 (some 28) (m_ 14 511) rfl rfl (tw HT_ HW_) hHeld ?_
 refine tk_ 9 (some 32) (m_ 14 1023) rfl rfl (tw HT_ HW_) hHeld ?_
 refine pu_ 10 (some 33) (m_ 14 2047) rfl rfl (ao HT_) ?_
 refine tk_ 11 (some 34) (m_ 14 4095) rfl rfl (tw HT_ HW_) hHeld ?_
 refine o1_ 12 (some 7) (m_ 14 8191) rfl rfl (oo HT_) (fun K hK=>?_)
 refine box_step ?hg (N:=7) ?hd (cs:=#[.bool false,.slice none 0 0]) (t:=63) ?hr ?_;(case hd=>rfl);(case hg=>rfl);(case hr=>first|(go_simp;done)|(go_simp;rfl))
 intro gb1 hg w4 hbox hb
 have BK1:=am (hbox)
 have GW0:=bz HB hg
 have GE1:=bz HB hg
 have NB0:=bl BK0 hg
 have NB1:=bg BK0 hg
 replace HO0:=am (Kd.R_below (Rt_ HO0.out) hb)
 replace BK0:=bb BK0 hb
 replace HB:=bs HB hb
 clear hb hg
 refine hK.out _ _ ⟨ct BK0 0,ct BK0 1,ct BK0 2,ct BK0 3,ct BK0 4,ct BK0 5,ct BK0 6,(hx_ HB hw0 :),(hx_ HB hw1 :),(hx_ HB hw3 :),(hx_ HB hw2 :)⟩ (fun hHeld=>?_)
 clear hK K
 refine nr_ (some 7) ?_
 refine o1_ 13 (none) (m_ 14 16383) rfl rfl (oo HT_) (fun K hK=>?_)
 have hs0:c_ w4 gb1 0 (.bool false):=ct BK1 0
 have hfs0:=blk_frozen BK1.out 0
 have hns0:=nn NB0
 have hs1:c_ w4 gb1 1 (.slice none 0 0):=ct BK1 1
 have hfs1:=blk_frozen BK1.out 1
 have hns1:=nn NB0
 refine skip_ (w1:=?_) (by rfl) rfl ?_ ?_
 rotate_left;{
 go_simp
 rfl}
 refine hK.out _ _ (by obtain ⟨d0,d1,d2,d3,d4,d5,d6,d7,d8,d9,d10⟩:=hHeld;exact ⟨fa_ NB0 (fa_ NB0 d0),fa_ NB0 (fa_ NB0 d1),fa_ NB0 (fa_ NB0 d2),fa_ NB0 (fa_ NB0 d3),fa_ NB0 (fa_ NB0 d4),fa_ NB0 (fa_ NB0 d5),fa_ NB0 (fa_ NB0 d6),fb_ hw0 GW0 (fb_ hw0 GW0 d7),fb_ hw1 GW0 (fb_ hw1 GW0 d8),fb_ hw3 GW0 (fb_ hw3 GW0 d9),fb_ hw2 GW0 (fb_ hw2 GW0 d10)⟩) (fun hHeld=>?_)
 clear hK K
 refine done_ (done_of HT_.out (by kernel_rfl)) ?_
 try go_wp2
 go_loopg [5,8] kj3 (fun kq v5 v8 w'=>∃ (x3:List Int) (x4:Int),v8=.int .i64 x4∧Aside0 (carrefourref11_Way.l1 kq l1 x3 x1 x4 a0 l2 l3 l4 l5 l6 a1 ((rd_T63 ((rd_T33 l5 x1).f0) (rd l1 x1)).f0) ((rd_T63 ((rd_T33 l5 x1).f0) (rd l1 x1)).f1)=some r)∧Aside0 (kq≤kj3)∧Aside0 (Kd.R (Kd.int .i64) 3 w' w.heap.size (fun _=>True) v5 x3)∧Aside0 (w'.heap[gb0]?=some (.cells #[.string a0,(.slice A0 l2.length c0),(.slice A2 l3.length c2),(.slice A3 l4.length c3),(.slice (some ad0) l5.length c4),(.slice A5 l6.length c6),.int .i64 a1] 28 (0,0)))∧Aside0 (w'.heap[gb1]?=some (.cells #[.bool ((rd_T63 ((rd_T33 l5 x1).f0) (rd l1 x1)).f0),(.slice A7 ((rd_T63 ((rd_T33 l5 x1).f0) (rd l1 x1)).f1).length c28)] 63 (0,0)))∧Aside0 (Below w.heap.size w w'))
 case atStart=>exact ⟨(x0),(0),(aq),H',⟨Nat.le_refl _⟩,⟨Rt_ (Kd.R_mono (Kd.R_far (p:=⟨gb1,1,none⟩) (Kd.R_far (p:=⟨gb1,0,none⟩) (Kd.R_types HO0.out BK1.out (by decide)) (fun _ hk=>hk.2) (.bool ((rd_T63 ((rd_T33 l5 x1).f0) (rd l1 x1)).f0))) (fun _ hk=>hk.2) (.slice A7 ((rd_T63 ((rd_T33 l5 x1).f0) (rd l1 x1)).f1).length c28)) (fun _ hk=>trivial))⟩,bu_ BK0,bq_ BK1,⟨bf HB⟩⟩
 case round =>skip;{
 clear H'
 (try clear c1);(try clear p2);(try clear c5);(try clear c7);(try clear p5);(try clear q5);(try clear hx5);(try clear c8);(try clear c9);(try clear c14);(try clear c10);(try clear c16);(try clear c11);(try clear c20);(try clear c12);(try clear c24);(try clear c13);(try clear c26);(try clear hcz6);(try clear hcz7);(try clear hx0);(try clear hx1);(try clear hx2);(try clear hx3);(try clear p2);(try clear p0);(try clear p1);(try clear p3);(try clear q0);(try clear q1);(try clear q2)
 obtain ⟨x3,x4,rfl,HA,HK3,HO0,BK0,BK1,HB⟩:=hrel
 cases gk with
 | zero=>exact absurd HA.out (by simp [carrefourref11_Way.l1])
 | succ k3 =>skip;{
 have H:=HA.out
 clear HA
 simp only [carrefourref11_Way.l1] at H
 by_cases c18:x4<(((rd_T63 ((rd_T33 l5 x1).f0) (rd l1 x1)).f1).length:Int);{
 rw [if_pos c18] at H
 have c30:decide (x4<(((rd_T63 ((rd_T33 l5 x1).f0) (rd l1 x1)).f1).length:Int))=true:=decide_eq_true c18
 clear c18
 by_cases c19:0≤x4;{
 rw [if_pos c19] at H
 have c32:decide (0≤x4)=true:=decide_eq_true c19
 clear c19
 replace H:=bi_ H;obtain ⟨t0,A8,H⟩:=H
 (try dsimp only at H)
 by_cases c21:t0≥0;{
 rw [if_pos c21] at H
 have c34:decide (0≤t0)=true:=decide_eq_true c21
 clear c21
 by_cases c22:x3.length<17592186044416;{
 rw [if_pos c22] at H
 have LMc0:=am c22
 clear c22
 obtain ⟨y0,hy0⟩:∃ y_:List Int,y_=(x3++[t0]):=⟨_,rfl⟩
 replace H:(carrefourref11_Way.l1 k3 l1 y0 x1 (wrap64 (x4+1)) a0 l2 l3 l4 l5 l6 a1 ((rd_T63 ((rd_T33 l5 x1).f0) (rd l1 x1)).f0) ((rd_T63 ((rd_T33 l5 x1).f0) (rd l1 x1)).f1))=some r:=by first|(rw [hy0];with_reducible exact H)|(have H0:=(Option.bind_some _ _).symm.trans H;rw [hy0];with_reducible exact H0)|(have H0:=(Option.bind_some _ _).symm.trans H;with_reducible exact H0)|with_reducible exact H|(rw [hy0];exact H)|exact H
 have Ny0:=am hy0
 clear hy0
 have H':=am H
 clear H
 have hnb0:=nn NB1
 have hcz0:c_ wr gb1 0 (.bool ((rd_T63 ((rd_T33 l5 x1).f0) (rd l1 x1)).f0)):=ct BK1 0
 have hcz1:c_ wr gb1 1 (.slice A7 ((rd_T63 ((rd_T33 l5 x1).f0) (rd l1 x1)).f1).length c28):=ct BK1 1
 have hfz0:=bo BK1 0
 have hfz1:=bo BK1 1
 try go_wp2
 replace HO0:=am (Kd.R_drew HO0.out)
 replace BK0:=am (blk_drew BK0.out)
 replace BK1:=am (blk_drew BK1.out)
 replace HB:=am (below_drew1 HB.out)
 have p4:0≤(x4:Int):=od_
 have q3:x4<(((rd_T63 ((rd_T33 l5 x1).f0) (rd l1 x1)).f1).length:Int):=od_
 obtain ⟨ad3,e3,hx4⟩:=Kd.at_string HR7.out x4 p4 q3
 have hw4:=hx4
 cases e3
 replace hx4:=hx_ HB hx4
 replace p4:=eq_true p4
 replace q3:=eq_true q3
 refine start_ (n:=8) (S:=fun w'=>c_ w' gb0 0 (.string a0)∧c_ w' gb0 1 (.slice A0 l2.length c0)∧c_ w' gb0 2 (.slice A2 l3.length c2)∧c_ w' gb0 3 (.slice A3 l4.length c3)∧c_ w' gb0 4 (.slice (some ad0) l5.length c4)∧c_ w' gb0 5 (.slice A5 l6.length c6)∧c_ w' gb0 6 (.int .i64 a1)∧c_ w' gb1 0 (.bool ((rd_T63 ((rd_T33 l5 x1).f0) (rd l1 x1)).f0))∧c_ w' gb1 1 (.slice (some ad3) ((rd_T63 ((rd_T33 l5 x1).f0) (rd l1 x1)).f1).length c28)∧w'.cell? (ad3.add (x4).toNat)=some (.string (rdOf ByteArray.empty ((rd_T63 ((rd_T33 l5 x1).f0) (rd l1 x1)).f1) x4))) (ds:=[]) (m_ 8 0) (by kernel_rfl) rfl rfl ⟨ct BK0 0,ct BK0 1,ct BK0 2,ct BK0 3,ct BK0 4,ct BK0 5,ct BK0 6,ct BK1 0,ct BK1 1,(hx_ HB hw4 :)⟩ (fun hHeld=>?_);refine with_tabW carrefourref11_Way.tab9 carrefourref11_Way.bits9 (fun HT_ HW_=>?_)
 generalize wr.drew=w5 at HO0 BK0 BK1 HB hx4 hHeld ⊢
 refine pu_ 1 (some 43) (m_ 8 2) rfl rfl (ao HT_) ?_
 refine pu_ 3 (some 45) (m_ 8 10) rfl rfl (ao HT_) ?_
 refine tk_ 0 (some 42) (m_ 8 11) rfl rfl (tw HT_ HW_) hHeld ?_
 refine tk_ 2 (some 44) (m_ 8 15) rfl rfl (tw HT_ HW_) hHeld ?_
 refine pu_ 4 (some 46) (m_ 8 31) rfl rfl (ao HT_) ?_
 refine tk_ 5 (some 47) (m_ 8 63) rfl rfl (tw HT_ HW_) hHeld ?_
 refine o1_ 6 (some 48) (m_ 8 127) rfl rfl (oo HT_) (fun K hK=>?_)
 refine gs_ rfl Tryd.func23 (carrefourref07_Phase.calls _ _ _ _ _ _ _ _ _ _ _ _ _ _ _ _ _ _ (rdOf ByteArray.empty ((rd_T63 ((rd_T33 l5 x1).f0) (rd l1 x1)).f1) x4) _ _ ?side1 ?side2 ?side3 ?side4 ?side5 ?side6 ?side7 ?side8 ?side9 ?side10 A8.out) ag ?_
 (case side1=>repeat (first|exact (Kd.C_below HR0.out HB.out)|(with_reducible refine Kd.C_alloc ?_ _)|(with_reducible refine Kd.C_drewN ?_ _)|(with_reducible refine Kd.C_drew ?_)))
 (case side2=>exact HC0.out)
 (case side3=>repeat (first|exact (Kd.C_below HR2.out HB.out)|(with_reducible refine Kd.C_alloc ?_ _)|(with_reducible refine Kd.C_drewN ?_ _)|(with_reducible refine Kd.C_drew ?_)))
 (case side4=>exact HC2.out)
 (case side5=>repeat (first|exact (Kd.C_below HR3.out HB.out)|(with_reducible refine Kd.C_alloc ?_ _)|(with_reducible refine Kd.C_drewN ?_ _)|(with_reducible refine Kd.C_drew ?_)))
 (case side6=>exact HC3.out)
 (case side7=>repeat (first|exact (Kd.C_below HR4.out HB.out)|(with_reducible refine Kd.C_alloc ?_ _)|(with_reducible refine Kd.C_drewN ?_ _)|(with_reducible refine Kd.C_drew ?_)))
 (case side8=>exact HC5.out)
 (case side9=>repeat (first|exact (Kd.C_below HR5.out HB.out)|(with_reducible refine Kd.C_alloc ?_ _)|(with_reducible refine Kd.C_drewN ?_ _)|(with_reducible refine Kd.C_drew ?_)))
 (case side10=>exact HC6.out)
 intro w6 hb
 replace HO0:=am (Kd.R_below (Rt_ HO0.out) hb)
 replace BK0:=bb BK0 hb
 replace BK1:=bb BK1 hb
 replace HB:=bs HB hb
 (try clear hb)
 refine hK.out _ _ ⟨ct BK0 0,ct BK0 1,ct BK0 2,ct BK0 3,ct BK0 4,ct BK0 5,ct BK0 6,ct BK1 0,ct BK1 1,(hx_ HB hw4 :)⟩ (fun hHeld=>?_)
 clear hK K
 refine nr_ (some 48) ?_
 refine pu_ 7 (some 9) (m_ 8 255) rfl rfl (ao HT_) ?_
 refine done_ (done_of HT_.out (by kernel_rfl)) ?_
 try go_wp2_with (first|((with_reducible refine gate_builtin (b:=.append) (xs:=#[.tmp 51,.tmp 53]) rfl ?_);(try (refine gate_guard (by rfl) ?_;dsimp only));at_builtin;refine Kd.R_append (Kd.int .i64) (w0:=w) w.heap.size rfl (.tmp 51) (.tmp 53) 37 3 (.int .i64 0) 8 rfl Tryd.underlying37 info3 rfl (by decide) (by omega) u5 x3 t0 [.int .i64 t0] (fun _=>True) (fun _=>False) rfl rfl ?aP (fun _ hk=>hk.elim) ?aF ?aO ?aB ?aS ?aL ?_;(case aP=>exact rfl);(case aB=>exact (bf HB));(case aF=>exact (fun _ _=>trivial));(case aO=>exact (Rt_ HO0.out));(case aS=>exact (below_size (bf HB)));(case aL=>have:=LMc0.out;omega);intro v2 w7 ho hb hg hat;rw [← Ny0.out] at ho;have n0:=am (blk_grown (g:=gb0) (o:=.cells #[.string a0,.slice A0 l2.length c0,.slice A2 l3.length c2,.slice A3 l4.length c3,.slice (some ad0) l5.length c4,.slice A5 l6.length c6,.int .i64 a1] 28 (0,0)) (bx BK0) hg (Kd.R_ne HO0.out BK0.out (by decide)));have n1:=am (blk_grown (g:=gb1) (o:=.cells #[.bool ((rd_T63 ((rd_T33 l5 x1).f0) (rd l1 x1)).f0),.slice (some ad3) ((rd_T63 ((rd_T33 l5 x1).f0) (rd l1 x1)).f1).length c28] 63 (0,0)) (bx BK1) hg (Kd.R_ne HO0.out BK1.out (by decide)));have n2:=am (hb);have n3:=am (ho);clear BK0;clear BK1;clear HB;clear HO0;have BK0:=n0;have BK1:=n1;have HB:=n2;have HO1:=n3;clear n0 n1 n2 n3;clear ho hb hg hat))
 go_roundg k3
 case measure=>have:=HK1.out;have:=HJ3.out;have:=HK3.out;omega
 case rel=>exact ⟨(y0),(wrap64 (x4+1)),(aq),H',⟨by have:=HK1.out;have:=HJ3.out;have:=HK3.out;omega⟩,⟨Rt_ HO1.out⟩,bu_ BK0,bu_ BK1,⟨bf HB⟩⟩};{
 rw [if_neg c22] at H
 exact absurd H (by simp)}};{
 rw [if_neg c21] at H
 have c34:decide (0≤t0)=false:=decide_eq_false c21
 clear c21
 have H':=am H
 clear H
 have hnb1:=nn NB1
 have hcz2:c_ wr gb1 0 (.bool ((rd_T63 ((rd_T33 l5 x1).f0) (rd l1 x1)).f0)):=ct BK1 0
 have hcz3:c_ wr gb1 1 (.slice A7 ((rd_T63 ((rd_T33 l5 x1).f0) (rd l1 x1)).f1).length c28):=ct BK1 1
 have hfz2:=bo BK1 0
 have hfz3:=bo BK1 1
 try go_wp2
 replace HO0:=am (Kd.R_drew HO0.out)
 replace BK0:=am (blk_drew BK0.out)
 replace BK1:=am (blk_drew BK1.out)
 replace HB:=am (below_drew1 HB.out)
 have p4:0≤(x4:Int):=od_
 have q3:x4<(((rd_T63 ((rd_T33 l5 x1).f0) (rd l1 x1)).f1).length:Int):=od_
 obtain ⟨ad3,e3,hx4⟩:=Kd.at_string HR7.out x4 p4 q3
 have hw4:=hx4
 cases e3
 replace hx4:=hx_ HB hx4
 replace p4:=eq_true p4
 replace q3:=eq_true q3
 refine start_ (n:=8) (S:=fun w'=>c_ w' gb0 0 (.string a0)∧c_ w' gb0 1 (.slice A0 l2.length c0)∧c_ w' gb0 2 (.slice A2 l3.length c2)∧c_ w' gb0 3 (.slice A3 l4.length c3)∧c_ w' gb0 4 (.slice (some ad0) l5.length c4)∧c_ w' gb0 5 (.slice A5 l6.length c6)∧c_ w' gb0 6 (.int .i64 a1)∧c_ w' gb1 0 (.bool ((rd_T63 ((rd_T33 l5 x1).f0) (rd l1 x1)).f0))∧c_ w' gb1 1 (.slice (some ad3) ((rd_T63 ((rd_T33 l5 x1).f0) (rd l1 x1)).f1).length c28)∧w'.cell? (ad3.add (x4).toNat)=some (.string (rdOf ByteArray.empty ((rd_T63 ((rd_T33 l5 x1).f0) (rd l1 x1)).f1) x4))) (ds:=[]) (m_ 8 0) (by kernel_rfl) rfl rfl ⟨ct BK0 0,ct BK0 1,ct BK0 2,ct BK0 3,ct BK0 4,ct BK0 5,ct BK0 6,ct BK1 0,ct BK1 1,(hx_ HB hw4 :)⟩ (fun hHeld=>?_);refine with_tabW carrefourref11_Way.tab9 carrefourref11_Way.bits9 (fun HT_ HW_=>?_)
 generalize wr.drew=w8 at HO0 BK0 BK1 HB hx4 hHeld ⊢
 refine pu_ 1 (some 43) (m_ 8 2) rfl rfl (ao HT_) ?_
 refine pu_ 3 (some 45) (m_ 8 10) rfl rfl (ao HT_) ?_
 refine tk_ 0 (some 42) (m_ 8 11) rfl rfl (tw HT_ HW_) hHeld ?_
 refine tk_ 2 (some 44) (m_ 8 15) rfl rfl (tw HT_ HW_) hHeld ?_
 refine pu_ 4 (some 46) (m_ 8 31) rfl rfl (ao HT_) ?_
 refine tk_ 5 (some 47) (m_ 8 63) rfl rfl (tw HT_ HW_) hHeld ?_
 refine o1_ 6 (some 48) (m_ 8 127) rfl rfl (oo HT_) (fun K hK=>?_)
 refine gs_ rfl Tryd.func23 (carrefourref07_Phase.calls _ _ _ _ _ _ _ _ _ _ _ _ _ _ _ _ _ _ (rdOf ByteArray.empty ((rd_T63 ((rd_T33 l5 x1).f0) (rd l1 x1)).f1) x4) _ _ ?side1 ?side2 ?side3 ?side4 ?side5 ?side6 ?side7 ?side8 ?side9 ?side10 A8.out) ag ?_
 (case side1=>repeat (first|exact (Kd.C_below HR0.out HB.out)|(with_reducible refine Kd.C_alloc ?_ _)|(with_reducible refine Kd.C_drewN ?_ _)|(with_reducible refine Kd.C_drew ?_)))
 (case side2=>exact HC0.out)
 (case side3=>repeat (first|exact (Kd.C_below HR2.out HB.out)|(with_reducible refine Kd.C_alloc ?_ _)|(with_reducible refine Kd.C_drewN ?_ _)|(with_reducible refine Kd.C_drew ?_)))
 (case side4=>exact HC2.out)
 (case side5=>repeat (first|exact (Kd.C_below HR3.out HB.out)|(with_reducible refine Kd.C_alloc ?_ _)|(with_reducible refine Kd.C_drewN ?_ _)|(with_reducible refine Kd.C_drew ?_)))
 (case side6=>exact HC3.out)
 (case side7=>repeat (first|exact (Kd.C_below HR4.out HB.out)|(with_reducible refine Kd.C_alloc ?_ _)|(with_reducible refine Kd.C_drewN ?_ _)|(with_reducible refine Kd.C_drew ?_)))
 (case side8=>exact HC5.out)
 (case side9=>repeat (first|exact (Kd.C_below HR5.out HB.out)|(with_reducible refine Kd.C_alloc ?_ _)|(with_reducible refine Kd.C_drewN ?_ _)|(with_reducible refine Kd.C_drew ?_)))
 (case side10=>exact HC6.out)
 intro w9 hb
 replace HO0:=am (Kd.R_below (Rt_ HO0.out) hb)
 replace BK0:=bb BK0 hb
 replace BK1:=bb BK1 hb
 replace HB:=bs HB hb
 (try clear hb)
 refine hK.out _ _ ⟨ct BK0 0,ct BK0 1,ct BK0 2,ct BK0 3,ct BK0 4,ct BK0 5,ct BK0 6,ct BK1 0,ct BK1 1,(hx_ HB hw4 :)⟩ (fun hHeld=>?_)
 clear hK K
 refine nr_ (some 48) ?_
 refine pu_ 7 (some 9) (m_ 8 255) rfl rfl (ao HT_) ?_
 refine done_ (done_of HT_.out (by kernel_rfl)) ?_
 try go_wp2
 go_roundg k3
 case measure=>have:=HK1.out;have:=HJ3.out;have:=HK3.out;omega
 case rel=>exact ⟨(x3),(wrap64 (x4+1)),(aq),H',⟨by have:=HK1.out;have:=HJ3.out;have:=HK3.out;omega⟩,⟨Rt_ HO0.out⟩,bu_ BK0,bu_ BK1,⟨bf HB⟩⟩}};{
 rw [if_neg c19] at H
 exact absurd H (by simp)}};{
 rw [if_neg c18] at H
 have c30:decide (x4<(((rd_T63 ((rd_T33 l5 x1).f0) (rd l1 x1)).f1).length:Int))=false:=decide_eq_false c18
 clear c18
 have H':=am H
 clear H
 have hnb2:=nn NB1
 have hcz4:c_ wr gb1 0 (.bool ((rd_T63 ((rd_T33 l5 x1).f0) (rd l1 x1)).f0)):=ct BK1 0
 have hcz5:c_ wr gb1 1 (.slice A7 ((rd_T63 ((rd_T33 l5 x1).f0) (rd l1 x1)).f1).length c28):=ct BK1 1
 have hfz4:=bo BK1 0
 have hfz5:=bo BK1 1
 go_wp2
 go_roundg k3
 case measure=>have:=HK1.out;have:=HJ3.out;have:=HK3.out;omega
 case rel=>exact ⟨(x3),(wrap64 (x1+1)),(aq),H',⟨by have:=HK1.out;have:=HJ3.out;have:=HK3.out;omega⟩,⟨Rt_ HO0.out⟩,bu_ BK0,⟨bf HB⟩⟩}}}};{
 rw [if_neg c13] at H
 exact absurd H (by simp)}};{
 rw [if_neg c12] at H
 exact absurd H (by simp)}};{
 rw [if_neg c11] at H
 exact absurd H (by simp)}};{
 rw [if_neg c10] at H
 exact absurd H (by simp)}};{
 rw [if_neg c9] at H
 exact absurd H (by simp)}};{
 replace c8:=Bool.eq_false_iff.mpr c8
 subst c8
 have H1:(some x0)=some r:=by rw [if_neg (show ¬ (false=true) by decide)] at H;exact H
 clear H
 have H:=H1
 clear H1
 obtain rfl:=Option.some.inj H
 go_wp2
 go_ret
 exact ⟨_,ae,by (with_reducible repeat (first|apply Kd.R_alloc|apply Kd.R_drewN|apply Kd.R_drew));exact HO0.out,bf HB⟩}}}}}
end Go.Proofs.YtenphnkiacfmiaaDoor.X
