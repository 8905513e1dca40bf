/- Walks: each '.calls' says that the Go function comes to what its Lean function tells. Conditions: as each theorem's head says. -/
import Derived.Test.YtenphnkiacfmiaaDoorXD
import Derived.Test.YtenphnkiacfmiaaDoorX0
import Derived.Test.YtenphnkiacfmiaaDoorX4
namespace Go.Proofs.YtenphnkiacfmiaaDoor.X
open Go.RowKit Go.Proofs.YtenphnkiacfmiaaDoorW.PrintWords Go.Proofs.YtenphnkiacfmiaaDoorW.PrintLast Go.Proofs.YtenphnkiacfmiaaDoorW.PrintMore
attribute [local go_sem] max2_int min2_int max_two min_two max_three min_three max_four min_four
set_option linter.unusedVariables false
set_option maxHeartbeats 8000000
set_option maxRecDepth 100000
set_option linter.unusedSimpArgs false
def carrefourlaw06_node.T13:Bool × List (List Nat × List Nat):=(true,[([],[]),([0],[0]),([],[]),([1,2],[1,2]),([3],[3]),([4],[4]),([],[]),([6],[6]),([],[]),([7,8],[7,8]),([9],[9]),([10],[10]),([5,11],[5,11]),([12],[12]),([13],[13])])
def carrefourlaw06_node.B13:List Nat:=[0,1,0,7,15,31,0,64,0,448,960,1984,4095,8191,16383]
theorem carrefourlaw06_node.tab13:rtab .any (opsOf Tryd.f36 13)=carrefourlaw06_node.T13:=by kernel_rfl
theorem carrefourlaw06_node.bits13:waitsOk carrefourlaw06_node.T13.2 carrefourlaw06_node.B13=true:=by kernel_rfl
def carrefourlaw06_node.T33:Bool × List (List Nat × List Nat):=(true,[([],[]),([0],[0]),([],[]),([1,2],[1,2]),([3],[3]),([4],[4]),([],[]),([6],[6]),([],[]),([7,8],[7,8]),([9],[9]),([10],[10]),([5,11],[5,11]),([12],[12]),([13],[13])])
def carrefourlaw06_node.B33:List Nat:=[0,1,0,7,15,31,0,64,0,448,960,1984,4095,8191,16383]
theorem carrefourlaw06_node.tab33:rtab .any (opsOf Tryd.f36 33)=carrefourlaw06_node.T33:=by kernel_rfl
theorem carrefourlaw06_node.bits33:waitsOk carrefourlaw06_node.T33.2 carrefourlaw06_node.B33=true:=by kernel_rfl
theorem carrefourlaw06_node.calls (k:Nat) (a0:ByteArray) (A0:Option Addr) (c0:Nat) (l6:List (S96)) (A1:Option Addr) (c9:Nat) (l7:List (S98)) (A2:Option Addr) (c11:Nat) (l8:List (S61)) (A3:Option Addr) (c14:Nat) (l9:List (S33)) (A4:Option Addr) (c15:Nat) (l10:List (S100)) (a1:Int) (r:Bool) (w:World) (hr0:Kd.C k96 w A0 l6.length l6) (hc0:l6.length≤c0) (hr1:Kd.C k98 w A1 l7.length l7) (hc1:l7.length≤c9) (hr2:Kd.C k61 w A2 l8.length l8) (hc2:l8.length≤c11) (hr3:Kd.C k33 w A3 l9.length l9) (hc3:l9.length≤c14) (hr4:Kd.C k100 w A4 l10.length l10) (hc4:l10.length≤c15) (h:carrefourlaw06_node.f k a0 l6 l7 l8 l9 l10 a1=some r) :
  Calls Tryd.prog 36 #[.agg #[.string a0,.slice A0 l6.length c0,.slice A1 l7.length c9,.slice A2 l8.length c11,.slice A3 l9.length c14,.slice A4 l10.length c15,.int .i64 a1]] w fun e w'=>e=.returned (.bool r)∧Below w.heap.size w w':=by
 have hu0:=Tryd.underlying28
 have HR0:=am hr0
 have HC0:=am hc0
 clear hr0 hc0
 have HR1:=am hr1
 have HC1:=am hc1
 clear hr1 hc1
 have HR2:=am hr2
 have HC3:=am hc2
 clear hr2 hc2
 have HR3:=am hr3
 have HC4:=am hc3
 clear hr3 hc3
 have HR4:=am hr4
 have HC5:=am hc4
 clear hr4 hc4
 have HB:=am (Below.refl w.heap.size w)
 have H:(if (l6.length:Int)>50 then (carrefourlaw06_node.j0 k true a0 l6 l7 l8 l9 l10 a1) else (if (l7.length:Int)>50 then (carrefourlaw06_node.j0 k true a0 l6 l7 l8 l9 l10 a1) else (if (l8.length:Int)>50 then (carrefourlaw06_node.j0 k true a0 l6 l7 l8 l9 l10 a1) else (if (l9.length:Int)>50 then (carrefourlaw06_node.j0 k true a0 l6 l7 l8 l9 l10 a1) else (carrefourlaw06_node.j0 k (decide ((l10.length:Int)>80)) a0 l6 l7 l8 l9 l10 a1)))))=some r:=h
 clear h
 have HC2:=am H
 clear H
 go_enter Tryd.func36,Tryd.ntmps36
 go_upto_region 1 with (first|((with_reducible refine gate_dst (N:=1) rfl ?_);(try (refine gate_guard (by rfl) ?_;dsimp only));refine box_event ?hg (N:=1) ?hd (cs:=#[.string a0,.slice A0 l6.length c0,.slice A1 l7.length c9,.slice A2 l8.length c11,.slice A3 l9.length c14,.slice A4 l10.length c15,.int .i64 a1]) (t:=28) ?hr ?_;(case hd=>rfl);(case hg=>rfl);(case hr=>first|(go_simp;done)|(go_simp;rfl));intro gb0 hg w3 hbox hb;have BK0:=am (hbox);have GE0:=bz HB hg;replace HB:=bs HB hb;clear hb hg))
 (try simp only [Act.put,si,s0,s1])
 go_cut [37] (fun v0 wc=>∃ (kq:Nat) (x0:Bool),v0=.bool x0∧Aside0 (carrefourlaw06_node.j0 kq x0 a0 l6 l7 l8 l9 l10 a1=some r)∧Aside0 (kq≤k)∧Aside0 (wc.heap[gb0]?=some (.cells #[.string a0,(.slice A0 l6.length c0),(.slice A1 l7.length c9),(.slice A2 l8.length c11),(.slice A3 l9.length c14),(.slice A4 l10.length c15),.int .i64 a1] 28 (0,0)))∧Aside0 (Below w.heap.size w wc))
 case first =>skip;{
 have H:=HC2.out
 clear HC2
 by_cases c4:(l6.length:Int)>50;{
 rw [if_pos c4] at H
 have c16:decide (50<(l6.length:Int))=true:=decide_eq_true c4
 have c20:decide (50<l6.length)=true:=decide_eq_true (by omega)
 clear c4
 (first|rw [c16]|(simp only [i64_w,i32_w];rw [c16])|skip)
 have H':=am H
 clear H
 have hcz5:=X.k7 BK0
 go_wp2
 go_meet
 case rel=>exact ⟨_,(true),(aq),H',⟨by first|omega|exact Nat.le_refl _⟩,bu_ BK0,⟨bf HB⟩⟩};{
 rw [if_neg c4] at H
 have c16:decide (50<(l6.length:Int))=false:=decide_eq_false c4
 have c20:decide (50<l6.length)=false:=decide_eq_false (by omega)
 clear c4
 (first|rw [c16]|(simp only [i64_w,i32_w];rw [c16])|skip)
 by_cases c6:(l7.length:Int)>50;{
 rw [if_pos c6] at H
 have c21:decide (50<(l7.length:Int))=true:=decide_eq_true c6
 have c22:decide (50<l7.length)=true:=decide_eq_true (by omega)
 clear c6
 have H':=am H
 clear H
 have hcz7:=X.k7 BK0
 go_wp2
 go_meet
 case rel=>exact ⟨_,(true),(aq),H',⟨by first|omega|exact Nat.le_refl _⟩,bu_ BK0,⟨bf HB⟩⟩};{
 rw [if_neg c6] at H
 have c21:decide (50<(l7.length:Int))=false:=decide_eq_false c6
 have c22:decide (50<l7.length)=false:=decide_eq_false (by omega)
 clear c6
 by_cases c8:(l8.length:Int)>50;{
 rw [if_pos c8] at H
 have c25:decide (50<(l8.length:Int))=true:=decide_eq_true c8
 have c27:decide (50<l8.length)=true:=decide_eq_true (by omega)
 clear c8
 have H':=am H
 clear H
 have hcz9:=X.k7 BK0
 go_wp2
 go_meet
 case rel=>exact ⟨_,(true),(aq),H',⟨by first|omega|exact Nat.le_refl _⟩,bu_ BK0,⟨bf HB⟩⟩};{
 rw [if_neg c8] at H
 have c25:decide (50<(l8.length:Int))=false:=decide_eq_false c8
 have c27:decide (50<l8.length)=false:=decide_eq_false (by omega)
 clear c8
 by_cases c10:(l9.length:Int)>50;{
 rw [if_pos c10] at H
 have c29:decide (50<(l9.length:Int))=true:=decide_eq_true c10
 have c32:decide (50<l9.length)=true:=decide_eq_true (by omega)
 clear c10
 have H':=am H
 clear H
 have hcz0:=X.k7 BK0
 go_wp2
 go_meet
 case rel=>exact ⟨_,(true),(aq),H',⟨by first|omega|exact Nat.le_refl _⟩,bu_ BK0,⟨bf HB⟩⟩};{
 rw [if_neg c10] at H
 have c29:decide (50<(l9.length:Int))=false:=decide_eq_false c10
 have c32:decide (50<l9.length)=false:=decide_eq_false (by omega)
 clear c10
 have H':=am H
 clear H
 have hcz1:=X.k7 BK0
 go_wp2
 go_meet
 case rel=>exact ⟨_,(decide ((l10.length:Int)>80)),(aq),H',⟨by first|omega|exact Nat.le_refl _⟩,bu_ BK0,⟨bf HB⟩⟩}}}}}
 case rest =>skip;{
 clear HC2
 (try clear c1);(try clear p2);(try clear c3);(try clear c4);(try clear c16);(try clear c20);(try clear c6);(try clear c21);(try clear c22);(try clear c8);(try clear c25);(try clear c27);(try clear c10);(try clear c29);(try clear c32);(try clear hcz0);(try clear hcz1);(try clear hcz5);(try clear hcz7);(try clear hcz9)
 obtain ⟨kq,x0,rfl,HA,HJ1,BK0,HB⟩:=hcut
 cases kq with
 | zero=>exact absurd HA.out (by simp [carrefourlaw06_node.j0])
 | succ kj1 =>skip;{
 have H:=HA.out
 clear HA
 simp only [carrefourlaw06_node.j0] at H
 by_cases c13:x0=true;{
 subst c13
 have H1:(some false)=some r:=by rw [if_pos rfl] at H;exact H
 clear H
 have H:=H1
 clear H1
 obtain rfl:=Option.some.inj H
 go_wp2
 go_ret
 exact ⟨ae,bf HB⟩};{
 replace c13:=Bool.eq_false_iff.mpr c13
 subst c13
 have H1:(carrefourlaw06_node.l0 kj1 (([a0]:List ByteArray)) 0 a0 l6 l7 l8 l9 l10 a1)=some r:=by rw [if_neg (show ¬ (false=true) by decide)] at H;exact H
 clear H
 have H:=H1
 clear H1
 obtain ⟨y0,hy0⟩:∃ y_:List ByteArray,y_=(([a0]:List ByteArray)):=⟨_,rfl⟩
 replace H:(carrefourlaw06_node.l0 kj1 y0 0 a0 l6 l7 l8 l9 l10 a1)=some r:=by first|(rw [hy0];with_reducible exact H)|(have H0:=(Option.bind_some _ _).symm.trans H;rw [hy0];with_reducible exact H0)|(have H0:=(Option.bind_some _ _).symm.trans H;with_reducible exact H0)|with_reducible exact H|(rw [hy0];exact H)|exact H
 have Ny0:=am hy0
 clear hy0
 have H':=am H
 clear H
 have hcz2:=X.k7 BK0
 go_wp2_with (first|((with_reducible refine gate_dst (N:=40) rfl ?_);(try (refine gate_guard (by rfl) ?_;dsimp only));refine Kd.R_lit Kd.string _ 9 ?hg (N:=40) ?hd (xs:=([a0]:List ByteArray)) (inner:=[.string a0]) (ok:=fun _=>True) (okp:=fun _=>True) ?hr ?hp (fun _ hk=>hk) trivial (Below.refl _ _) (Nat.le_refl _) (by simp) ?_;(case hd=>rfl);(case hg=>rfl);(case hr=>first|(go_simp;done)|(go_simp;rfl));(case hp=>exact (Reps.one (show Kd.M Kd.string _ _ _ a0 [.string a0] from rfl) (Reps.none _ _)));intro v1 w1 ho0 hb hg_ hnew_;clear hg_ hnew_;(first|rw [← Ny0.out] at ho0|(simp only [Int.reduceToNat] at ho0;rw [← Ny0.out] at ho0));have HO0:=am (Kd.R_lower ho0 (below_size (bf HB)));replace BK0:=bb BK0 hb;replace HB:=bs HB hb;clear hb ho0))
 go_loopg [3,4] kj1 (fun kq v3 v4 w'=>∃ (x1:List ByteArray) (x2:Int),v4=.int .i64 x2∧Aside0 (carrefourlaw06_node.l0 kq x1 x2 a0 l6 l7 l8 l9 l10 a1=some r)∧Aside0 (kq≤kj1)∧Aside0 (Kd.R Kd.string 9 w' w.heap.size (fun _=>True) v3 x1)∧Aside0 (w'.heap[gb0]?=some (.cells #[.string a0,(.slice A0 l6.length c0),(.slice A1 l7.length c9),(.slice A2 l8.length c11),(.slice A3 l9.length c14),(.slice A4 l10.length c15),.int .i64 a1] 28 (0,0)))∧Aside0 (Below w.heap.size w w'))
 case atStart=>exact ⟨(y0),(0),(aq),H',⟨Nat.le_refl _⟩,⟨Rt_ HO0.out⟩,bu_ BK0,⟨bf HB⟩⟩
 case round =>skip;{
 clear H'
 (try clear c1);(try clear p2);(try clear c3);(try clear c4);(try clear c16);(try clear c20);(try clear c6);(try clear c21);(try clear c22);(try clear c8);(try clear c25);(try clear c27);(try clear c10);(try clear c29);(try clear c32);(try clear c13);(try clear hcz0);(try clear hcz1);(try clear hcz2);(try clear hcz5);(try clear hcz7);(try clear hcz9);(try clear p2)
 obtain ⟨x1,x2,rfl,HA,HK2,HO1,BK0,HB⟩:=hrel
 cases gk with
 | zero=>exact absurd HA.out (by simp [carrefourlaw06_node.l0])
 | succ k2 =>skip;{
 have H:=HA.out
 clear HA
 simp only [carrefourlaw06_node.l0] at H
 by_cases c17:x2<(l6.length:Int);{
 rw [if_pos c17] at H
 have c36:decide (x2<(l6.length:Int))=true:=decide_eq_true c17
 clear c17
 by_cases c18:0≤x2;{
 rw [if_pos c18] at H
 have c39:decide (0≤x2)=true:=decide_eq_true c18
 clear c18
 by_cases c19:x1.length<8796093022208;{
 rw [if_pos c19] at H
 have LMc0:=am c19
 clear c19
 obtain ⟨y1,hy1⟩:∃ y_:List ByteArray,y_=(x1++[(rd_T96 l6 x2).f0]):=⟨_,rfl⟩
 replace H:(carrefourlaw06_node.l0 k2 y1 (wrap64 (x2+1)) a0 l6 l7 l8 l9 l10 a1)=some r:=by first|(rw [hy1];with_reducible exact H)|(have H0:=(Option.bind_some _ _).symm.trans H;rw [hy1];with_reducible exact H0)|(have H0:=(Option.bind_some _ _).symm.trans H;with_reducible exact H0)|with_reducible exact H|(rw [hy1];exact H)|exact H
 have Ny1:=am hy1
 clear hy1
 have H':=am H
 clear H
 have hcz3:=X.k7 BK0
 have p0:0≤(x2:Int):=od_
 have q0:x2<(l6.length:Int):=od_
 obtain ⟨ad0,e0,hx0,hx2,hx3,hx4,hx5,hx6,hx7,hx8,hx9,hx14,hx15⟩:=at_T96 HR0.out x2 p0 q0
 cases e0
 replace hx0:=hx_ HB hx0
 replace hx2:=hx_ HB hx2
 replace hx3:=hx_ HB hx3
 replace hx4:=hx_ HB hx4
 replace hx5:=hx_ HB hx5
 replace hx6:=hx_ HB hx6
 replace hx7:=hx_ HB hx7
 replace hx8:=hx_ HB hx8
 replace hx9:=hx_ HB hx9
 replace hx14:=hx_ HB hx14
 replace hx15:=hx_ HB hx15
 replace p0:=eq_true p0
 replace q0:=eq_true q0
 go_wp2_with (first|((with_reducible refine gate_builtin (b:=.append) (xs:=#[.tmp 48,.tmp 55]) rfl ?_);(try (refine gate_guard (by rfl) ?_;dsimp only));at_builtin;refine Kd.R_append Kd.string (w0:=w) w.heap.size rfl (.tmp 48) (.tmp 55) 59 9 (.string ⟨#[]⟩) 16 rfl Tryd.underlying59 info9 rfl (by decide) (by omega) u3 x1 ((rd_T96 l6 x2).f0) [.string ((rd_T96 l6 x2).f0)] (fun _=>True) (fun _=>False) rfl rfl ?aP (fun _ hk=>hk.elim) ?aF ?aO ?aB ?aS ?aL ?_;(case aP=>exact rfl);(case aB=>exact (bf HB));(case aF=>exact (fun _ _=>trivial));(case aO=>exact (Rt_ HO1.out));(case aS=>exact (below_size (bf HB)));(case aL=>have:=LMc0.out;omega);intro v2 w2 ho hb hg hat;rw [← Ny1.out] at ho;have n0:=am (blk_grown (g:=gb0) (o:=.cells #[.string a0,.slice (some ad0) l6.length c0,.slice A1 l7.length c9,.slice A2 l8.length c11,.slice A3 l9.length c14,.slice A4 l10.length c15,.int .i64 a1] 28 (0,0)) (bx BK0) hg (Kd.R_ne HO1.out BK0.out (by decide)));have n1:=am (hb);have n2:=am (ho);clear BK0;clear HB;clear HO1;have BK0:=n0;have HB:=n1;have HO2:=n2;clear n0 n1 n2;clear ho hb hg hat))
 go_roundg k2
 case measure=>have:=HJ1.out;have:=HK2.out;omega
 case rel=>exact ⟨(y1),(wrap64 (x2+1)),(aq),H',⟨by have:=HJ1.out;have:=HK2.out;omega⟩,⟨Rt_ HO2.out⟩,bu_ BK0,⟨bf HB⟩⟩};{
 rw [if_neg c19] at H
 exact absurd H (by simp)}};{
 rw [if_neg c18] at H
 exact absurd H (by simp)}};{
 rw [if_neg c17] at H
 have c36:decide (x2<(l6.length:Int))=false:=decide_eq_false c17
 clear c17
 obtain ⟨ji0,hji0⟩:∃ j_:Int,(mn (x1.length:Int) 50)=j_:=⟨_,rfl⟩
 replace H:(if 0≤(ji0) then (if (ji0)≤(x1.length:Int) then ((carrefourlaw06_strings.f k2 (x1.take ((ji0):Int).toNat)).bind fun t0=>(if t0=true then (carrefourlaw06_node.l1 k2 0 a0 l6 l7 l8 l9 l10 a1) else (some false))) else (none)) else (none))=some r:=by first|(rw [hji0] at H;exact H)|(simp only [hji0] at H ⊢;exact H)
 have hji1:(if 50<(x1.length:Int) then 50 else (x1.length:Int))=ji0:=hji0
 by_cases c23:0≤(ji0);{
 rw [if_pos c23] at H
 have c42:=eq_true c23
 have c43:decide (0≤(ji0))=true:=decide_eq_true c23
 clear c23
 by_cases c24:(ji0)≤(x1.length:Int);{
 rw [if_pos c24] at H
 have c47:=eq_true c24
 have c49:decide ((ji0)≤(x1.length:Int))=true:=decide_eq_true c24
 clear c24
 obtain ⟨y2,hy2⟩:∃ y_:List ByteArray,y_=(x1.take ((ji0):Int).toNat):=⟨_,rfl⟩
 replace H:((carrefourlaw06_strings.f k2 y2).bind fun t0=>(if t0=true then (carrefourlaw06_node.l1 k2 0 a0 l6 l7 l8 l9 l10 a1) else (some false)))=some r:=by first|(rw [hy2];with_reducible exact H)|(have H0:=(Option.bind_some _ _).symm.trans H;rw [hy2];with_reducible exact H0)|(have H0:=(Option.bind_some _ _).symm.trans H;with_reducible exact H0)|with_reducible exact H|(rw [hy2];exact H)|exact H
 have Ny2:=am hy2
 clear hy2
 replace H:=bi_ H;obtain ⟨t0,A5,H⟩:=H
 (try dsimp only at H)
 by_cases c26:t0=true;{
 subst c26
 have H1:(carrefourlaw06_node.l1 k2 0 a0 l6 l7 l8 l9 l10 a1)=some r:=by rw [if_pos rfl] at H;exact H
 clear H
 have H:=H1
 clear H1
 have H':=am H
 clear H
 have hcz4:=X.k7 BK0
 obtain ⟨Ao0,co0,eo0⟩:=Kd.R_slice HO1.out
 subst eo0
 have q3:((ji0):Int)≤((x1.length:Int):Int):=od_
 obtain ⟨i029,hi0,_,hsz0,_⟩:=info_parts info9
 have hroom29:x1.length≤co0:=(Kd.R_reads' HO1.out).2.1
 have hC0:Kd.C Kd.string _ Ao0 x1.length x1:=(Kd.R_reads' HO1.out).2.2
 have hcut0:=cut_to (P:=Tryd.prog) 59 9 .i64 Tryd.underlying59 hi0 Ao0 x1.length co0 (ji0) (od_) q3 hroom29
 have hr5:=Kd.C_take (m:=((ji0):Int).toNat) hC0 (by omega)
 have hy3:y2.length=((ji0):Int).toNat:=(by rw [Ny2.out,List.length_take];omega)
 rw [← Ny2.out] at hr5
 rw [← hy3] at hcut0
 have HR5:=am hr5
 have HC6:=am (show y2.length≤co0 from by omega)
 clear hr5 hC0 hroom29 hi0 hsz0
 have KY0:=am hy3
 clear hy3
 have KL0:=am (show ((ji0):Int).toNat≤x1.length from by omega)
 replace q3:=eq_true q3
 go_wp2_with (first|((with_reducible refine gc 37 rfl ?_);refine gm_ (some 62) rfl rfl Tryd.func37 (carrefourlaw06_strings.calls _ _ _ _ _ _ ?side1 ?side2 A5.out) ag ?_;(case side1=>repeat (first|exact (by repeat (first|(with_reducible exact HR5.out)|(with_reducible refine Kd.C_alloc ?_ _)|(with_reducible refine Kd.C_drewN ?_ _)|(with_reducible refine Kd.C_drew ?_)|exact HR5.out))|(with_reducible refine Kd.C_alloc ?_ _)|(with_reducible refine Kd.C_drewN ?_ _)|(with_reducible refine Kd.C_drew ?_)));(case side2=>exact HC6.out);rintro w' ⟨nd,rfl⟩))
 go_loopg [5] k2 (fun kq v5 w'=>∃ (x3:Int),v5=.int .i64 x3∧Aside0 (carrefourlaw06_node.l1 kq x3 a0 l6 l7 l8 l9 l10 a1=some r)∧Aside0 (kq≤k2)∧Aside0 (w'.heap[gb0]?=some (.cells #[.string a0,(.slice A0 l6.length c0),(.slice A1 l7.length c9),(.slice A2 l8.length c11),(.slice A3 l9.length c14),(.slice A4 l10.length c15),.int .i64 a1] 28 (0,0)))∧Aside0 (Below w.heap.size w w'))
 case atStart=>exact ⟨(0),(aq),H',⟨Nat.le_refl _⟩,bu_ BK0,⟨bf HB⟩⟩
 case round =>skip;{
 clear H'
 (try clear c1);(try clear p1);(try clear q1);(try clear hx1);(try clear c2);(try clear p2);(try clear q2);(try clear c3);(try clear c4);(try clear c16);(try clear c20);(try clear c6);(try clear c21);(try clear c22);(try clear p6);(try clear c8);(try clear c25);(try clear c27);(try clear c10);(try clear c29);(try clear c32);(try clear p3);(try clear q4);(try clear hx10);(try clear c13);(try clear c17);(try clear c36);(try clear c18);(try clear c39);(try clear c19);(try clear c23);(try clear c42);(try clear c43);(try clear c24);(try clear c47);(try clear c49);(try clear c26);(try clear q3);(try clear hcz0);(try clear hcz1);(try clear hcz2);(try clear hcz3);(try clear hcz4);(try clear hcz5);(try clear hcz7);(try clear hcz9);(try clear hx0);(try clear hx2);(try clear hx15);(try clear hx3);(try clear hx4);(try clear hx5);(try clear hx6);(try clear hx7);(try clear hx8);(try clear hx9);(try clear hx14);(try clear p0);(try clear p2);(try clear q0);(try clear q3)
 obtain ⟨x3,rfl,HA,HK3,BK0,HB⟩:=hrel
 cases gk with
 | zero=>exact absurd HA.out (by simp [carrefourlaw06_node.l1])
 | succ k3 =>skip;{
 have H:=HA.out
 clear HA
 simp only [carrefourlaw06_node.l1] at H
 by_cases c30:x3<(l7.length:Int);{
 rw [if_pos c30] at H
 have c53:decide (x3<(l7.length:Int))=true:=decide_eq_true c30
 clear c30
 by_cases c31:0≤x3;{
 rw [if_pos c31] at H
 have c55:decide (0≤x3)=true:=decide_eq_true c31
 clear c31
 obtain ⟨y3,hy4⟩:∃ y_:List ByteArray,y_=(([(rd_T98 l7 x3).f0,(rd_T98 l7 x3).f1]:List ByteArray)):=⟨_,rfl⟩
 replace H:((carrefourlaw06_strings.f k3 y3).bind fun t1=>(if t1=true then (carrefourlaw06_node.l1 k3 (wrap64 (x3+1)) a0 l6 l7 l8 l9 l10 a1) else (some false)))=some r:=by first|(rw [hy4];with_reducible exact H)|(have H0:=(Option.bind_some _ _).symm.trans H;rw [hy4];with_reducible exact H0)|(have H0:=(Option.bind_some _ _).symm.trans H;with_reducible exact H0)|with_reducible exact H|(rw [hy4];exact H)|exact H
 have Ny3:=am hy4
 clear hy4
 replace H:=bi_ H;obtain ⟨t1,A6,H⟩:=H
 (try dsimp only at H)
 by_cases c33:t1=true;{
 subst c33
 have H1:(carrefourlaw06_node.l1 k3 (wrap64 (x3+1)) a0 l6 l7 l8 l9 l10 a1)=some r:=by rw [if_pos rfl] at H;exact H
 clear H
 have H:=H1
 clear H1
 have H':=am H
 clear H
 have hcz6:=X.k7 BK0
 try go_wp2
 replace BK0:=am (blk_drew BK0.out)
 replace HB:=am (below_drew1 HB.out)
 have p4:0≤(x3:Int):=od_
 have q5:x3<(l7.length:Int):=od_
 obtain ⟨ad1,e1,hx17,hx18,hx19,hx20,hx21,hx22⟩:=at_T98 HR1.out x3 p4 q5
 have hw0:=hx22
 have hw1:=hx21
 have hw2:=hx20
 have hw3:=hx19
 have hw4:=hx18
 have hw5:=hx17
 cases e1
 replace hx17:=hx_ HB hx17
 replace hx18:=hx_ HB hx18
 replace hx19:=hx_ HB hx19
 replace hx20:=hx_ HB hx20
 replace hx21:=hx_ HB hx21
 replace hx22:=hx_ HB hx22
 replace p4:=eq_true p4
 replace q5:=eq_true q5
 have p5:0≤(x3:Int):=od_
 have q6:x3<(l7.length:Int):=od_
 obtain ⟨ad2,e2,hx23,hx24,hx25,hx26,hx27,hx28⟩:=at_T98 HR1.out x3 p5 q6
 have hw6:=hx28
 have hw7:=hx27
 have hw8:=hx26
 have hw9:=hx25
 have hw10:=hx24
 have hw11:=hx23
 obtain rfl:ad1=ad2:=(by injection e2)
 replace hx23:=hx_ HB hx23
 replace hx24:=hx_ HB hx24
 replace hx25:=hx_ HB hx25
 replace hx26:=hx_ HB hx26
 replace hx27:=hx_ HB hx27
 replace hx28:=hx_ HB hx28
 replace p5:=eq_true p5
 replace q6:=eq_true q6
 refine start_ (n:=15) (S:=fun w'=>c_ w' gb0 0 (.string a0)∧c_ w' gb0 1 (.slice A0 l6.length c0)∧c_ w' gb0 2 (.slice (some ad1) l7.length c9)∧c_ w' gb0 3 (.slice A2 l8.length c11)∧c_ w' gb0 4 (.slice A3 l9.length c14)∧c_ w' gb0 5 (.slice A4 l10.length c15)∧c_ w' gb0 6 (.int .i64 a1)∧w'.cell? (ad1.add ((x3).toNat*6))=some (.string ((rd_T98 l7 x3).f0))∧w'.cell? ⟨(ad1.add ((x3).toNat*6)).block,(ad1.add ((x3).toNat*6)).off+1,none⟩=some (.string ((rd_T98 l7 x3).f1))∧w'.cell? ⟨(ad1.add ((x3).toNat*6)).block,(ad1.add ((x3).toNat*6)).off+2,none⟩=some (.int .i64 ((rd_T98 l7 x3).f2))∧w'.cell? ⟨(ad1.add ((x3).toNat*6)).block,(ad1.add ((x3).toNat*6)).off+3,none⟩=some (.int .i64 ((rd_T98 l7 x3).f3))∧w'.cell? ⟨(ad1.add ((x3).toNat*6)).block,(ad1.add ((x3).toNat*6)).off+4,none⟩=some (.int .i64 ((rd_T98 l7 x3).f4))∧w'.cell? ⟨(ad1.add ((x3).toNat*6)).block,(ad1.add ((x3).toNat*6)).off+5,none⟩=some (.int .i64 ((rd_T98 l7 x3).f5))∧w'.cell? (ad1.add ((x3).toNat*6))=some (.string ((rd_T98 l7 x3).f0))∧w'.cell? ⟨(ad1.add ((x3).toNat*6)).block,(ad1.add ((x3).toNat*6)).off+1,none⟩=some (.string ((rd_T98 l7 x3).f1))∧w'.cell? ⟨(ad1.add ((x3).toNat*6)).block,(ad1.add ((x3).toNat*6)).off+2,none⟩=some (.int .i64 ((rd_T98 l7 x3).f2))∧w'.cell? ⟨(ad1.add ((x3).toNat*6)).block,(ad1.add ((x3).toNat*6)).off+3,none⟩=some (.int .i64 ((rd_T98 l7 x3).f3))∧w'.cell? ⟨(ad1.add ((x3).toNat*6)).block,(ad1.add ((x3).toNat*6)).off+4,none⟩=some (.int .i64 ((rd_T98 l7 x3).f4))∧w'.cell? ⟨(ad1.add ((x3).toNat*6)).block,(ad1.add ((x3).toNat*6)).off+5,none⟩=some (.int .i64 ((rd_T98 l7 x3).f5))) (ds:=[]) (m_ 15 0) (by kernel_rfl) rfl rfl ⟨ct BK0 0,ct BK0 1,ct BK0 2,ct BK0 3,ct BK0 4,ct BK0 5,ct BK0 6,(hx_ HB hw5 :),(hx_ HB hw4 :),(hx_ HB hw3 :),(hx_ HB hw2 :),(hx_ HB hw1 :),(hx_ HB hw0 :),(hx_ HB hw11 :),(hx_ HB hw10 :),(hx_ HB hw9 :),(hx_ HB hw8 :),(hx_ HB hw7 :),(hx_ HB hw6 :)⟩ (fun hHeld=>?_);refine with_tabW carrefourlaw06_node.tab13 carrefourlaw06_node.bits13 (fun HT_ HW_=>?_)
 generalize wr.drew=w4 at BK0 HB hx17 hx18 hx19 hx20 hx21 hx22 hx23 hx24 hx25 hx26 hx27 hx28 hHeld ⊢
 refine pu_ 0 (some 71) (m_ 15 1) rfl rfl (ao HT_) ?_
 refine pu_ 2 (some 73) (m_ 15 5) rfl rfl (ao HT_) ?_
 refine pu_ 6 (some 77) (m_ 15 69) rfl rfl (ao HT_) ?_
 refine pu_ 8 (some 79) (m_ 15 325) rfl rfl (ao HT_) ?_
 refine tk_ 1 (some 72) (m_ 15 327) rfl rfl (tw HT_ HW_) hHeld ?_
 refine pu_ 3 (some 74) (m_ 15 335) rfl rfl (ao HT_) ?_
 refine pu_ 4 (some 75) (m_ 15 351) rfl rfl (ao HT_) ?_
 refine tk_ 5 (some 76) (m_ 15 383) rfl rfl (tw HT_ HW_) hHeld ?_
 refine tk_ 7 (some 78) (m_ 15 511) rfl rfl (tw HT_ HW_) hHeld ?_
 refine pu_ 9 (some 80) (m_ 15 1023) rfl rfl (ao HT_) ?_
 refine pu_ 10 (some 81) (m_ 15 2047) rfl rfl (ao HT_) ?_
 refine tk_ 11 (some 82) (m_ 15 4095) rfl rfl (tw HT_ HW_) hHeld ?_
 refine o1_ 12 (some 83) (m_ 15 8191) rfl rfl (oo HT_) (fun K hK=>?_)
 refine Kd.R_lit_step Kd.string _ 9 ?hg (N:=83) ?hd (xs:=([(rd_T98 l7 x3).f0,(rd_T98 l7 x3).f1]:List ByteArray)) (inner:=[.string ((rd_T98 l7 x3).f0),.string ((rd_T98 l7 x3).f1)]) (ok:=fun _=>True) (okp:=fun _=>True) ?hr ?hp (fun _ hk=>hk) trivial (Below.refl _ _) (Nat.le_refl _) (by simp) ?_;(case hd=>rfl);(case hg=>rfl);(case hr=>first|(go_simp;done)|(go_simp;rfl));(case hp=>exact (Reps.one (show Kd.M Kd.string _ _ _ ((rd_T98 l7 x3).f0) [.string ((rd_T98 l7 x3).f0)] from rfl) (Reps.one (show Kd.M Kd.string _ _ _ ((rd_T98 l7 x3).f1) [.string ((rd_T98 l7 x3).f1)] from rfl) (Reps.none _ _))))
 intro v10 w5 ho1 hb hg_ hnew_
 clear hg_ hnew_
 (first|rw [← Ny3.out] at ho1|(simp only [Int.reduceToNat] at ho1;rw [← Ny3.out] at ho1))
 have HO3:=am (Kd.R_lower ho1 (below_size (bf HB)))
 replace BK0:=bb BK0 hb
 replace HB:=bs HB hb
 clear hb ho1
 obtain ⟨Ao1,co1,eo1⟩:=Kd.R_slice HO3.out
 (first|subst eo1|(injection eo1 with f1_ f2_ f3_;have f4_:=f1_.symm;have f5_:=f3_.symm;clear f1_ f2_ f3_;subst f4_;subst f5_))
 refine hK.out _ _ ⟨ct BK0 0,ct BK0 1,ct BK0 2,ct BK0 3,ct BK0 4,ct BK0 5,ct BK0 6,(hx_ HB hw5 :),(hx_ HB hw4 :),(hx_ HB hw3 :),(hx_ HB hw2 :),(hx_ HB hw1 :),(hx_ HB hw0 :),(hx_ HB hw11 :),(hx_ HB hw10 :),(hx_ HB hw9 :),(hx_ HB hw8 :),(hx_ HB hw7 :),(hx_ HB hw6 :)⟩ (fun hHeld=>?_)
 clear hK K
 refine nr_ (some 83) ?_
 refine o1_ 13 (some 84) (m_ 15 16383) rfl rfl (oo HT_) (fun K hK=>?_)
 refine gs_ rfl Tryd.func37 (carrefourlaw06_strings.calls _ _ _ _ _ _ ?side1 ?side2 A6.out) ag ?_
 (case side1=>exact rc HO3)
 (case side2=>exact (Kd.R_reads' HO3.out).2.1)
 rintro w' ⟨nd,rfl⟩
 refine hK.out _ _ ⟨ct BK0 0,ct BK0 1,ct BK0 2,ct BK0 3,ct BK0 4,ct BK0 5,ct BK0 6,(hx_ HB hw5 :),(hx_ HB hw4 :),(hx_ HB hw3 :),(hx_ HB hw2 :),(hx_ HB hw1 :),(hx_ HB hw0 :),(hx_ HB hw11 :),(hx_ HB hw10 :),(hx_ HB hw9 :),(hx_ HB hw8 :),(hx_ HB hw7 :),(hx_ HB hw6 :)⟩ (fun hHeld=>?_)
 clear hK K
 refine nr_ (some 84) ?_
 refine pu_ 14 (some 85) (m_ 15 32767) rfl rfl (ao HT_) ?_
 refine done_ (done_of HT_.out (by kernel_rfl)) ?_
 try go_wp2
 go_roundg k3
 case measure=>have:=HJ1.out;have:=HK2.out;have:=HK3.out;omega
 case rel=>exact ⟨(wrap64 (x3+1)),(aq),H',⟨by have:=HJ1.out;have:=HK2.out;have:=HK3.out;omega⟩,bu_ BK0,⟨bf HB⟩⟩};{
 replace c33:=Bool.eq_false_iff.mpr c33
 subst c33
 have H1:(some false)=some r:=by rw [if_neg (show ¬ (false=true) by decide)] at H;exact H
 clear H
 have H:=H1
 clear H1
 obtain rfl:=Option.some.inj H
 have hcz8:=X.k7 BK0
 try go_wp2
 replace BK0:=am (blk_drew BK0.out)
 replace HB:=am (below_drew1 HB.out)
 have p4:0≤(x3:Int):=od_
 have q5:x3<(l7.length:Int):=od_
 obtain ⟨ad1,e1,hx17,hx18,hx19,hx20,hx21,hx22⟩:=at_T98 HR1.out x3 p4 q5
 have hw0:=hx22
 have hw1:=hx21
 have hw2:=hx20
 have hw3:=hx19
 have hw4:=hx18
 have hw5:=hx17
 cases e1
 replace hx17:=hx_ HB hx17
 replace hx18:=hx_ HB hx18
 replace hx19:=hx_ HB hx19
 replace hx20:=hx_ HB hx20
 replace hx21:=hx_ HB hx21
 replace hx22:=hx_ HB hx22
 replace p4:=eq_true p4
 replace q5:=eq_true q5
 have p5:0≤(x3:Int):=od_
 have q6:x3<(l7.length:Int):=od_
 obtain ⟨ad2,e2,hx23,hx24,hx25,hx26,hx27,hx28⟩:=at_T98 HR1.out x3 p5 q6
 have hw6:=hx28
 have hw7:=hx27
 have hw8:=hx26
 have hw9:=hx25
 have hw10:=hx24
 have hw11:=hx23
 obtain rfl:ad1=ad2:=(by injection e2)
 replace hx23:=hx_ HB hx23
 replace hx24:=hx_ HB hx24
 replace hx25:=hx_ HB hx25
 replace hx26:=hx_ HB hx26
 replace hx27:=hx_ HB hx27
 replace hx28:=hx_ HB hx28
 replace p5:=eq_true p5
 replace q6:=eq_true q6
 refine start_ (n:=15) (S:=fun w'=>c_ w' gb0 0 (.string a0)∧c_ w' gb0 1 (.slice A0 l6.length c0)∧c_ w' gb0 2 (.slice (some ad1) l7.length c9)∧c_ w' gb0 3 (.slice A2 l8.length c11)∧c_ w' gb0 4 (.slice A3 l9.length c14)∧c_ w' gb0 5 (.slice A4 l10.length c15)∧c_ w' gb0 6 (.int .i64 a1)∧w'.cell? (ad1.add ((x3).toNat*6))=some (.string ((rd_T98 l7 x3).f0))∧w'.cell? ⟨(ad1.add ((x3).toNat*6)).block,(ad1.add ((x3).toNat*6)).off+1,none⟩=some (.string ((rd_T98 l7 x3).f1))∧w'.cell? ⟨(ad1.add ((x3).toNat*6)).block,(ad1.add ((x3).toNat*6)).off+2,none⟩=some (.int .i64 ((rd_T98 l7 x3).f2))∧w'.cell? ⟨(ad1.add ((x3).toNat*6)).block,(ad1.add ((x3).toNat*6)).off+3,none⟩=some (.int .i64 ((rd_T98 l7 x3).f3))∧w'.cell? ⟨(ad1.add ((x3).toNat*6)).block,(ad1.add ((x3).toNat*6)).off+4,none⟩=some (.int .i64 ((rd_T98 l7 x3).f4))∧w'.cell? ⟨(ad1.add ((x3).toNat*6)).block,(ad1.add ((x3).toNat*6)).off+5,none⟩=some (.int .i64 ((rd_T98 l7 x3).f5))∧w'.cell? (ad1.add ((x3).toNat*6))=some (.string ((rd_T98 l7 x3).f0))∧w'.cell? ⟨(ad1.add ((x3).toNat*6)).block,(ad1.add ((x3).toNat*6)).off+1,none⟩=some (.string ((rd_T98 l7 x3).f1))∧w'.cell? ⟨(ad1.add ((x3).toNat*6)).block,(ad1.add ((x3).toNat*6)).off+2,none⟩=some (.int .i64 ((rd_T98 l7 x3).f2))∧w'.cell? ⟨(ad1.add ((x3).toNat*6)).block,(ad1.add ((x3).toNat*6)).off+3,none⟩=some (.int .i64 ((rd_T98 l7 x3).f3))∧w'.cell? ⟨(ad1.add ((x3).toNat*6)).block,(ad1.add ((x3).toNat*6)).off+4,none⟩=some (.int .i64 ((rd_T98 l7 x3).f4))∧w'.cell? ⟨(ad1.add ((x3).toNat*6)).block,(ad1.add ((x3).toNat*6)).off+5,none⟩=some (.int .i64 ((rd_T98 l7 x3).f5))) (ds:=[]) (m_ 15 0) (by kernel_rfl) rfl rfl ⟨ct BK0 0,ct BK0 1,ct BK0 2,ct BK0 3,ct BK0 4,ct BK0 5,ct BK0 6,(hx_ HB hw5 :),(hx_ HB hw4 :),(hx_ HB hw3 :),(hx_ HB hw2 :),(hx_ HB hw1 :),(hx_ HB hw0 :),(hx_ HB hw11 :),(hx_ HB hw10 :),(hx_ HB hw9 :),(hx_ HB hw8 :),(hx_ HB hw7 :),(hx_ HB hw6 :)⟩ (fun hHeld=>?_);refine with_tabW carrefourlaw06_node.tab13 carrefourlaw06_node.bits13 (fun HT_ HW_=>?_)
 generalize wr.drew=w6 at BK0 HB hx17 hx18 hx19 hx20 hx21 hx22 hx23 hx24 hx25 hx26 hx27 hx28 hHeld ⊢
 refine pu_ 0 (some 71) (m_ 15 1) rfl rfl (ao HT_) ?_
 refine pu_ 2 (some 73) (m_ 15 5) rfl rfl (ao HT_) ?_
 refine pu_ 6 (some 77) (m_ 15 69) rfl rfl (ao HT_) ?_
 refine pu_ 8 (some 79) (m_ 15 325) rfl rfl (ao HT_) ?_
 refine tk_ 1 (some 72) (m_ 15 327) rfl rfl (tw HT_ HW_) hHeld ?_
 refine pu_ 3 (some 74) (m_ 15 335) rfl rfl (ao HT_) ?_
 refine pu_ 4 (some 75) (m_ 15 351) rfl rfl (ao HT_) ?_
 refine tk_ 5 (some 76) (m_ 15 383) rfl rfl (tw HT_ HW_) hHeld ?_
 refine tk_ 7 (some 78) (m_ 15 511) rfl rfl (tw HT_ HW_) hHeld ?_
 refine pu_ 9 (some 80) (m_ 15 1023) rfl rfl (ao HT_) ?_
 refine pu_ 10 (some 81) (m_ 15 2047) rfl rfl (ao HT_) ?_
 refine tk_ 11 (some 82) (m_ 15 4095) rfl rfl (tw HT_ HW_) hHeld ?_
 refine o1_ 12 (some 83) (m_ 15 8191) rfl rfl (oo HT_) (fun K hK=>?_)
 refine Kd.R_lit_step Kd.string _ 9 ?hg (N:=83) ?hd (xs:=([(rd_T98 l7 x3).f0,(rd_T98 l7 x3).f1]:List ByteArray)) (inner:=[.string ((rd_T98 l7 x3).f0),.string ((rd_T98 l7 x3).f1)]) (ok:=fun _=>True) (okp:=fun _=>True) ?hr ?hp (fun _ hk=>hk) trivial (Below.refl _ _) (Nat.le_refl _) (by simp) ?_;(case hd=>rfl);(case hg=>rfl);(case hr=>first|(go_simp;done)|(go_simp;rfl));(case hp=>exact (Reps.one (show Kd.M Kd.string _ _ _ ((rd_T98 l7 x3).f0) [.string ((rd_T98 l7 x3).f0)] from rfl) (Reps.one (show Kd.M Kd.string _ _ _ ((rd_T98 l7 x3).f1) [.string ((rd_T98 l7 x3).f1)] from rfl) (Reps.none _ _))))
 intro v10 w7 ho2 hb hg_ hnew_
 clear hg_ hnew_
 (first|rw [← Ny3.out] at ho2|(simp only [Int.reduceToNat] at ho2;rw [← Ny3.out] at ho2))
 have HO3:=am (Kd.R_lower ho2 (below_size (bf HB)))
 replace BK0:=bb BK0 hb
 replace HB:=bs HB hb
 clear hb ho2
 obtain ⟨Ao2,co2,eo2⟩:=Kd.R_slice HO3.out
 (first|subst eo2|(injection eo2 with f1_ f2_ f3_;have f4_:=f1_.symm;have f5_:=f3_.symm;clear f1_ f2_ f3_;subst f4_;subst f5_))
 refine hK.out _ _ ⟨ct BK0 0,ct BK0 1,ct BK0 2,ct BK0 3,ct BK0 4,ct BK0 5,ct BK0 6,(hx_ HB hw5 :),(hx_ HB hw4 :),(hx_ HB hw3 :),(hx_ HB hw2 :),(hx_ HB hw1 :),(hx_ HB hw0 :),(hx_ HB hw11 :),(hx_ HB hw10 :),(hx_ HB hw9 :),(hx_ HB hw8 :),(hx_ HB hw7 :),(hx_ HB hw6 :)⟩ (fun hHeld=>?_)
 clear hK K
 refine nr_ (some 83) ?_
 refine o1_ 13 (some 84) (m_ 15 16383) rfl rfl (oo HT_) (fun K hK=>?_)
 refine gs_ rfl Tryd.func37 (carrefourlaw06_strings.calls _ _ _ _ _ _ ?side1 ?side2 A6.out) ag ?_
 (case side1=>exact rc HO3)
 (case side2=>exact (Kd.R_reads' HO3.out).2.1)
 rintro w' ⟨nd,rfl⟩
 refine hK.out _ _ ⟨ct BK0 0,ct BK0 1,ct BK0 2,ct BK0 3,ct BK0 4,ct BK0 5,ct BK0 6,(hx_ HB hw5 :),(hx_ HB hw4 :),(hx_ HB hw3 :),(hx_ HB hw2 :),(hx_ HB hw1 :),(hx_ HB hw0 :),(hx_ HB hw11 :),(hx_ HB hw10 :),(hx_ HB hw9 :),(hx_ HB hw8 :),(hx_ HB hw7 :),(hx_ HB hw6 :)⟩ (fun hHeld=>?_)
 clear hK K
 refine nr_ (some 84) ?_
 refine pu_ 14 (some 85) (m_ 15 32767) rfl rfl (ao HT_) ?_
 refine done_ (done_of HT_.out (by kernel_rfl)) ?_
 try go_wp2
 go_ret
 exact ⟨by first|rfl|(simp [errW_none,errW_some]<;>rfl)|(simp only [← hji0];first|rfl|(simp [errW_none,errW_some]<;>rfl))|(simp [*,errW_none,errW_some]<;>rfl),bf HB⟩}};{
 rw [if_neg c31] at H
 exact absurd H (by simp)}};{
 rw [if_neg c30] at H
 have c53:decide (x3<(l7.length:Int))=false:=decide_eq_false c30
 clear c30
 have H':=am H
 clear H
 have hcz44:=X.k7 BK0
 go_wp2
 go_loopg [6] k3 (fun kq v6 w'=>∃ (x4:Int),v6=.int .i64 x4∧Aside0 (carrefourlaw06_node.l2 kq x4 a0 l6 l7 l8 l9 l10 a1=some r)∧Aside0 (kq≤k3)∧Aside0 (w'.heap[gb0]?=some (.cells #[.string a0,(.slice A0 l6.length c0),(.slice A1 l7.length c9),(.slice A2 l8.length c11),(.slice A3 l9.length c14),(.slice A4 l10.length c15),.int .i64 a1] 28 (0,0)))∧Aside0 (Below w.heap.size w w'))
 case atStart=>exact ⟨(0),(aq),H',⟨Nat.le_refl _⟩,bu_ BK0,⟨bf HB⟩⟩
 case round =>skip;{
 clear H'
 (try clear p1);(try clear q1);(try clear hx1);(try clear p2);(try clear q2);(try clear c3);(try clear p6);(try clear p3);(try clear q4);(try clear hx10);(try clear p7);(try clear q7);(try clear hx11);(try clear q3);(try clear c30);(try clear c53);(try clear c31);(try clear c55);(try clear c33);(try clear c37);(try clear hcz3);(try clear hcz4);(try clear hcz6);(try clear hcz8);(try clear hcz44);(try clear hcz5);(try clear hcz7);(try clear hcz9);(try clear hx0);(try clear hx2);(try clear hx15);(try clear hx3);(try clear hx4);(try clear hx5);(try clear hx6);(try clear hx7);(try clear hx8);(try clear hx9);(try clear hx14);(try clear hx17);(try clear hx18);(try clear hx19);(try clear hx20);(try clear hx21);(try clear hx22);(try clear hx23);(try clear hx24);(try clear hx25);(try clear hx26);(try clear hx27);(try clear hx28);(try clear p0);(try clear p4);(try clear p5);(try clear p2);(try clear q0);(try clear q5);(try clear q6);(try clear q3)
 obtain ⟨x4,rfl,HA,HK4,BK0,HB⟩:=hrel
 cases gk with
 | zero=>exact absurd HA.out (by simp [carrefourlaw06_node.l2])
 | succ k4 =>skip;{
 have H:=HA.out
 clear HA
 simp only [carrefourlaw06_node.l2] at H
 by_cases c45:x4<(l8.length:Int);{
 rw [if_pos c45] at H
 have c59:decide (x4<(l8.length:Int))=true:=decide_eq_true c45
 clear c45
 by_cases c46:0≤x4;{
 rw [if_pos c46] at H
 have c61:decide (0≤x4)=true:=decide_eq_true c46
 clear c46
 obtain ⟨y4,hy5⟩:∃ y_:List ByteArray,y_=(([(rd_T61 l8 x4).f0]:List ByteArray)):=⟨_,rfl⟩
 replace H:((carrefourlaw06_strings.f k4 y4).bind fun t2=>(if t2=true then ((carrefourlaw06_strings.f k4 ((rd_T61 l8 x4).f1)).bind fun t3=>(if t3=true then (carrefourlaw06_node.l2 k4 (wrap64 (x4+1)) a0 l6 l7 l8 l9 l10 a1) else (some false))) else (some false)))=some r:=by first|(rw [hy5];with_reducible exact H)|(have H0:=(Option.bind_some _ _).symm.trans H;rw [hy5];with_reducible exact H0)|(have H0:=(Option.bind_some _ _).symm.trans H;with_reducible exact H0)|with_reducible exact H|(rw [hy5];exact H)|exact H
 have Ny4:=am hy5
 clear hy5
 replace H:=bi_ H;obtain ⟨t2,A7,H⟩:=H
 (try dsimp only at H)
 by_cases c48:t2=true;{
 subst c48
 have H1:((carrefourlaw06_strings.f k4 ((rd_T61 l8 x4).f1)).bind fun t3=>(if t3=true then (carrefourlaw06_node.l2 k4 (wrap64 (x4+1)) a0 l6 l7 l8 l9 l10 a1) else (some false)))=some r:=by rw [if_pos rfl] at H;exact H
 clear H
 have H:=H1
 clear H1
 replace H:=bi_ H;obtain ⟨t3,A8,H⟩:=H
 (try dsimp only at H)
 by_cases c50:t3=true;{
 subst c50
 have H1:(carrefourlaw06_node.l2 k4 (wrap64 (x4+1)) a0 l6 l7 l8 l9 l10 a1)=some r:=by rw [if_pos rfl] at H;exact H
 clear H
 have H:=H1
 clear H1
 have H':=am H
 clear H
 have hcz51:=X.k7 BK0
 have p8:0≤(x4:Int):=od_
 have q8:x4<(l8.length:Int):=od_
 obtain ⟨ad3,A9,c64,e3,hx30,hx31,hx32,hl0,hi1⟩:=at_T61 HR2.out x4 p8 q8
 cases e3
 replace hx30:=hx_ HB hx30
 replace hx31:=hx_ HB hx31
 replace hx32:=hx_ HB hx32
 have HR6:=am hi1
 have HC7:=am hl0
 clear hi1 hl0
 replace p8:=eq_true p8
 replace q8:=eq_true q8
 go_wp2_with (first|((with_reducible refine gate_dst (N:=99) rfl ?_);(try (refine gate_guard (by rfl) ?_;dsimp only));refine Kd.R_lit Kd.string _ 9 ?hg (N:=99) ?hd (xs:=([(rd_T61 l8 x4).f0]:List ByteArray)) (inner:=[.string ((rd_T61 l8 x4).f0)]) (ok:=fun _=>True) (okp:=fun _=>True) ?hr ?hp (fun _ hk=>hk) trivial (Below.refl _ _) (Nat.le_refl _) (by simp) ?_;(case hd=>rfl);(case hg=>rfl);(case hr=>first|(go_simp;done)|(go_simp;rfl));(case hp=>exact (Reps.one (show Kd.M Kd.string _ _ _ ((rd_T61 l8 x4).f0) [.string ((rd_T61 l8 x4).f0)] from rfl) (Reps.none _ _)));intro v11 w8 ho3 hb hg_ hnew_;clear hg_ hnew_;(first|rw [← Ny4.out] at ho3|(simp only [Int.reduceToNat] at ho3;rw [← Ny4.out] at ho3));have HO4:=am (Kd.R_lower ho3 (below_size (bf HB)));replace BK0:=bb BK0 hb;replace HB:=bs HB hb;clear hb ho3;obtain ⟨Ao3,co3,eo3⟩:=Kd.R_slice HO4.out;subst eo3)|((with_reducible refine gc 37 rfl ?_);refine gm_ (some 100) rfl rfl Tryd.func37 (carrefourlaw06_strings.calls _ _ _ _ _ _ ?side1 ?side2 A7.out) ag ?_;(case side1=>exact rc HO4);(case side2=>exact (Kd.R_reads' HO4.out).2.1);rintro w' ⟨nd,rfl⟩;have hcz55:=X.k7 BK0;have p9:0≤(x4:Int):=od_;have q9:x4<(l8.length:Int):=od_;obtain ⟨ad4,A10,c65,e4,hx33,hx34,hx35,hl1,hi2⟩:=at_T61 HR2.out x4 p9 q9;obtain rfl:ad3=ad4:=(by injection e4);replace hx33:=hx_ HB hx33;replace hx34:=hx_ HB hx34;replace hx35:=hx_ HB hx35;have HR7:=am hi2;have HC8:=am hl1;clear hi2 hl1;replace p9:=eq_true p9;replace q9:=eq_true q9)|(go_at_call 37;(with_reducible refine (carrefourlaw06_strings.calls _ _ _ ((rd_T61 l8 x4).f1) _ _ ?side1 ?side2 A8.out).mono ?_);(case side1=>repeat (first|exact (Kd.C_below HR7.out (bf HB))|(with_reducible refine Kd.C_alloc ?_ _)|(with_reducible refine Kd.C_drewN ?_ _)|(with_reducible refine Kd.C_drew ?_)));(case side2=>exact HC8.out);rintro e w' ⟨rfl,⟨nd,rfl⟩⟩))
 go_roundg k4
 case measure=>have:=HJ1.out;have:=HK2.out;have:=HK3.out;have:=HK4.out;omega
 case rel=>exact ⟨(wrap64 (x4+1)),(aq),H',⟨by have:=HJ1.out;have:=HK2.out;have:=HK3.out;have:=HK4.out;omega⟩,bu_ BK0,⟨bf HB⟩⟩};{
 replace c50:=Bool.eq_false_iff.mpr c50
 subst c50
 have H1:(some false)=some r:=by rw [if_neg (show ¬ (false=true) by decide)] at H;exact H
 clear H
 have H:=H1
 clear H1
 obtain rfl:=Option.some.inj H
 have hcz56:=X.k7 BK0
 have p8:0≤(x4:Int):=od_
 have q8:x4<(l8.length:Int):=od_
 obtain ⟨ad3,A9,c64,e3,hx30,hx31,hx32,hl0,hi1⟩:=at_T61 HR2.out x4 p8 q8
 cases e3
 replace hx30:=hx_ HB hx30
 replace hx31:=hx_ HB hx31
 replace hx32:=hx_ HB hx32
 have HR6:=am hi1
 have HC7:=am hl0
 clear hi1 hl0
 replace p8:=eq_true p8
 replace q8:=eq_true q8
 go_wp2_with (first|((with_reducible refine gate_dst (N:=99) rfl ?_);(try (refine gate_guard (by rfl) ?_;dsimp only));refine Kd.R_lit Kd.string _ 9 ?hg (N:=99) ?hd (xs:=([(rd_T61 l8 x4).f0]:List ByteArray)) (inner:=[.string ((rd_T61 l8 x4).f0)]) (ok:=fun _=>True) (okp:=fun _=>True) ?hr ?hp (fun _ hk=>hk) trivial (Below.refl _ _) (Nat.le_refl _) (by simp) ?_;(case hd=>rfl);(case hg=>rfl);(case hr=>first|(go_simp;done)|(go_simp;rfl));(case hp=>exact (Reps.one (show Kd.M Kd.string _ _ _ ((rd_T61 l8 x4).f0) [.string ((rd_T61 l8 x4).f0)] from rfl) (Reps.none _ _)));intro v11 w9 ho4 hb hg_ hnew_;clear hg_ hnew_;(first|rw [← Ny4.out] at ho4|(simp only [Int.reduceToNat] at ho4;rw [← Ny4.out] at ho4));have HO4:=am (Kd.R_lower ho4 (below_size (bf HB)));replace BK0:=bb BK0 hb;replace HB:=bs HB hb;clear hb ho4;obtain ⟨Ao4,co4,eo4⟩:=Kd.R_slice HO4.out;subst eo4)|((with_reducible refine gc 37 rfl ?_);refine gm_ (some 100) rfl rfl Tryd.func37 (carrefourlaw06_strings.calls _ _ _ _ _ _ ?side1 ?side2 A7.out) ag ?_;(case side1=>exact rc HO4);(case side2=>exact (Kd.R_reads' HO4.out).2.1);rintro w' ⟨nd,rfl⟩;have hcz60:=X.k7 BK0;have p9:0≤(x4:Int):=od_;have q9:x4<(l8.length:Int):=od_;obtain ⟨ad4,A10,c65,e4,hx33,hx34,hx35,hl1,hi2⟩:=at_T61 HR2.out x4 p9 q9;obtain rfl:ad3=ad4:=(by injection e4);replace hx33:=hx_ HB hx33;replace hx34:=hx_ HB hx34;replace hx35:=hx_ HB hx35;have HR7:=am hi2;have HC8:=am hl1;clear hi2 hl1;replace p9:=eq_true p9;replace q9:=eq_true q9)|(go_at_call 37;(with_reducible refine (carrefourlaw06_strings.calls _ _ _ ((rd_T61 l8 x4).f1) _ _ ?side1 ?side2 A8.out).mono ?_);(case side1=>repeat (first|exact (Kd.C_below HR7.out (bf HB))|(with_reducible refine Kd.C_alloc ?_ _)|(with_reducible refine Kd.C_drewN ?_ _)|(with_reducible refine Kd.C_drew ?_)));(case side2=>exact HC8.out);rintro e w' ⟨rfl,⟨nd,rfl⟩⟩))
 go_ret
 exact ⟨by first|rfl|(simp [errW_none,errW_some]<;>rfl)|(simp only [← hji0];first|rfl|(simp [errW_none,errW_some]<;>rfl))|(simp [*,errW_none,errW_some]<;>rfl),bf HB⟩}};{
 replace c48:=Bool.eq_false_iff.mpr c48
 subst c48
 have H1:(some false)=some r:=by rw [if_neg (show ¬ (false=true) by decide)] at H;exact H
 clear H
 have H:=H1
 clear H1
 obtain rfl:=Option.some.inj H
 have hcz61:=X.k7 BK0
 have p8:0≤(x4:Int):=od_
 have q8:x4<(l8.length:Int):=od_
 obtain ⟨ad3,A9,c64,e3,hx30,hx31,hx32,hl0,hi1⟩:=at_T61 HR2.out x4 p8 q8
 cases e3
 replace hx30:=hx_ HB hx30
 replace hx31:=hx_ HB hx31
 replace hx32:=hx_ HB hx32
 have HR6:=am hi1
 have HC7:=am hl0
 clear hi1 hl0
 replace p8:=eq_true p8
 replace q8:=eq_true q8
 go_wp2_with (first|((with_reducible refine gate_dst (N:=99) rfl ?_);(try (refine gate_guard (by rfl) ?_;dsimp only));refine Kd.R_lit Kd.string _ 9 ?hg (N:=99) ?hd (xs:=([(rd_T61 l8 x4).f0]:List ByteArray)) (inner:=[.string ((rd_T61 l8 x4).f0)]) (ok:=fun _=>True) (okp:=fun _=>True) ?hr ?hp (fun _ hk=>hk) trivial (Below.refl _ _) (Nat.le_refl _) (by simp) ?_;(case hd=>rfl);(case hg=>rfl);(case hr=>first|(go_simp;done)|(go_simp;rfl));(case hp=>exact (Reps.one (show Kd.M Kd.string _ _ _ ((rd_T61 l8 x4).f0) [.string ((rd_T61 l8 x4).f0)] from rfl) (Reps.none _ _)));intro v11 w62 ho5 hb hg_ hnew_;clear hg_ hnew_;(first|rw [← Ny4.out] at ho5|(simp only [Int.reduceToNat] at ho5;rw [← Ny4.out] at ho5));have HO4:=am (Kd.R_lower ho5 (below_size (bf HB)));replace BK0:=bb BK0 hb;replace HB:=bs HB hb;clear hb ho5;obtain ⟨Ao5,co5,eo5⟩:=Kd.R_slice HO4.out;subst eo5)|((with_reducible refine gc 37 rfl ?_);refine gm_ (some 100) rfl rfl Tryd.func37 (carrefourlaw06_strings.calls _ _ _ _ _ _ ?side1 ?side2 A7.out) ag ?_;(case side1=>exact rc HO4);(case side2=>exact (Kd.R_reads' HO4.out).2.1);rintro w' ⟨nd,rfl⟩))
 go_ret
 exact ⟨by first|rfl|(simp [errW_none,errW_some]<;>rfl)|(simp only [← hji0];first|rfl|(simp [errW_none,errW_some]<;>rfl))|(simp [*,errW_none,errW_some]<;>rfl),bf HB⟩}};{
 rw [if_neg c46] at H
 exact absurd H (by simp)}};{
 rw [if_neg c45] at H
 have c59:decide (x4<(l8.length:Int))=false:=decide_eq_false c45
 clear c45
 have H':=am H
 clear H
 have hcz65:=X.k7 BK0
 go_wp2
 go_loopg [7] k4 (fun kq v7 w'=>∃ (x5:Int),v7=.int .i64 x5∧Aside0 (carrefourlaw06_node.l3 kq x5 a0 l6 l7 l8 l9 l10 a1=some r)∧Aside0 (kq≤k4)∧Aside0 (w'.heap[gb0]?=some (.cells #[.string a0,(.slice A0 l6.length c0),(.slice A1 l7.length c9),(.slice A2 l8.length c11),(.slice A3 l9.length c14),(.slice A4 l10.length c15),.int .i64 a1] 28 (0,0)))∧Aside0 (Below w.heap.size w w'))
 case atStart=>exact ⟨(0),(aq),H',⟨Nat.le_refl _⟩,bu_ BK0,⟨bf HB⟩⟩
 case round =>skip;{
 clear H'
 (try clear c1);(try clear p1);(try clear q1);(try clear hx1);(try clear p2);(try clear q2);(try clear c3);(try clear c4);(try clear c5);(try clear p6);(try clear p3);(try clear q4);(try clear hx10);(try clear p7);(try clear q7);(try clear hx11);(try clear c12);(try clear p12);(try clear q12);(try clear hx12);(try clear q3);(try clear c30);(try clear c53);(try clear c31);(try clear c55);(try clear c33);(try clear c37);(try clear c45);(try clear c59);(try clear c46);(try clear c61);(try clear c48);(try clear c50);(try clear p64);(try clear hcz3);(try clear hcz4);(try clear hcz6);(try clear hcz8);(try clear hcz44);(try clear hcz51);(try clear hcz55);(try clear hcz56);(try clear hcz5);(try clear hcz60);(try clear hcz61);(try clear hcz65);(try clear hcz7);(try clear hcz9);(try clear hx0);(try clear hx2);(try clear hx15);(try clear hx3);(try clear hx4);(try clear hx5);(try clear hx6);(try clear hx7);(try clear hx8);(try clear hx9);(try clear hx14);(try clear hx17);(try clear hx18);(try clear hx19);(try clear hx20);(try clear hx21);(try clear hx22);(try clear hx23);(try clear hx24);(try clear hx25);(try clear hx26);(try clear hx27);(try clear hx28);(try clear hx30);(try clear hx31);(try clear hx32);(try clear hx33);(try clear hx34);(try clear hx35);(try clear p1);(try clear p3);(try clear p0);(try clear p7);(try clear p4);(try clear p5);(try clear p8);(try clear p9);(try clear p2);(try clear p6);(try clear q1);(try clear q4);(try clear q0);(try clear q7);(try clear q5);(try clear q6);(try clear q8);(try clear q9);(try clear q2);(try clear q3)
 obtain ⟨x5,rfl,HA,HK5,BK0,HB⟩:=hrel
 cases gk with
 | zero=>exact absurd HA.out (by simp [carrefourlaw06_node.l3])
 | succ k5 =>skip;{
 have H:=HA.out
 clear HA
 simp only [carrefourlaw06_node.l3] at H
 by_cases c66:x5<(l9.length:Int);{
 rw [if_pos c66] at H
 have c75:decide (x5<(l9.length:Int))=true:=decide_eq_true c66
 clear c66
 by_cases c67:0≤x5;{
 rw [if_pos c67] at H
 have c78:decide (0≤x5)=true:=decide_eq_true c67
 clear c67
 by_cases c68:(((rd_T33 l9 x5).f0).length:Int)>5;{
 rw [if_pos c68] at H
 have c80:decide (5<(((rd_T33 l9 x5).f0).length:Int))=true:=decide_eq_true c68
 have c83:decide (5<((rd_T33 l9 x5).f0).length)=true:=decide_eq_true (by omega)
 clear c68
 obtain rfl:=Option.some.inj H
 have hcz69:=X.k7 BK0
 have p16:0≤(x5:Int):=od_
 have q15:x5<(l9.length:Int):=od_
 obtain ⟨ad5,A11,c85,e5,hx37,hl2,hi3⟩:=at_T33 HR3.out x5 p16 q15
 cases e5
 replace hx37:=hx_ HB hx37
 have HR8:=am hi3
 have HC9:=am hl2
 clear hi3 hl2
 replace p16:=eq_true p16
 replace q15:=eq_true q15
 go_wp2
 go_ret
 exact ⟨by first|rfl|(simp [errW_none,errW_some]<;>rfl)|(simp only [← hji0];first|rfl|(simp [errW_none,errW_some]<;>rfl))|(simp [*,errW_none,errW_some]<;>rfl),bf HB⟩};{
 rw [if_neg c68] at H
 have c80:decide (5<(((rd_T33 l9 x5).f0).length:Int))=false:=decide_eq_false c68
 have c83:decide (5<((rd_T33 l9 x5).f0).length)=false:=decide_eq_false (by omega)
 clear c68
 have H':=am H
 clear H
 have hcz70:=X.k7 BK0
 have p16:0≤(x5:Int):=od_
 have q15:x5<(l9.length:Int):=od_
 obtain ⟨ad5,A11,c85,e5,hx37,hl2,hi3⟩:=at_T33 HR3.out x5 p16 q15
 cases e5
 replace hx37:=hx_ HB hx37
 have HR8:=am hi3
 have HC9:=am hl2
 clear hi3 hl2
 replace p16:=eq_true p16
 replace q15:=eq_true q15
 go_wp2
 go_loopg [8] k5 (fun kq v8 w'=>∃ (x6:Int),v8=.int .i64 x6∧Aside0 (carrefourlaw06_node.l4 kq x5 x6 a0 l6 l7 l8 l9 l10 a1=some r)∧Aside0 (kq≤k5)∧Aside0 (w'.heap[gb0]?=some (.cells #[.string a0,(.slice A0 l6.length c0),(.slice A1 l7.length c9),(.slice A2 l8.length c11),(.slice (some ad5) l9.length c14),(.slice A4 l10.length c15),.int .i64 a1] 28 (0,0)))∧Aside0 (Below w.heap.size w w'))
 case atStart=>exact ⟨(0),(aq),H',⟨Nat.le_refl _⟩,bu_ BK0,⟨bf HB⟩⟩
 case round =>skip;{
 clear H'
 (try clear c1);(try clear p1);(try clear q1);(try clear hx1);(try clear p2);(try clear q2);(try clear c3);(try clear c4);(try clear c5);(try clear c6);(try clear p6);(try clear p3);(try clear q4);(try clear hx10);(try clear p7);(try clear q7);(try clear hx11);(try clear c12);(try clear p12);(try clear q12);(try clear hx12);(try clear q3);(try clear c30);(try clear c53);(try clear c31);(try clear c55);(try clear c33);(try clear c37);(try clear c45);(try clear c59);(try clear c46);(try clear c61);(try clear c48);(try clear c50);(try clear p64);(try clear c66);(try clear c75);(try clear c67);(try clear c78);(try clear c68);(try clear c80);(try clear c83);(try clear hcz3);(try clear hcz4);(try clear hcz6);(try clear hcz8);(try clear hcz44);(try clear hcz51);(try clear hcz55);(try clear hcz56);(try clear hcz5);(try clear hcz60);(try clear hcz61);(try clear hcz65);(try clear hcz69);(try clear hcz70);(try clear hcz7);(try clear hcz9);(try clear hx0);(try clear hx2);(try clear hx15);(try clear hx3);(try clear hx4);(try clear hx5);(try clear hx6);(try clear hx7);(try clear hx8);(try clear hx9);(try clear hx14);(try clear hx17);(try clear hx18);(try clear hx19);(try clear hx20);(try clear hx21);(try clear hx22);(try clear hx23);(try clear hx24);(try clear hx25);(try clear hx26);(try clear hx27);(try clear hx28);(try clear hx30);(try clear hx31);(try clear hx32);(try clear hx33);(try clear hx34);(try clear hx35);(try clear hx37);(try clear p1);(try clear p3);(try clear p0);(try clear p7);(try clear p4);(try clear p5);(try clear p12);(try clear p8);(try clear p9);(try clear p16);(try clear p2);(try clear p6);(try clear p64);(try clear q1);(try clear q4);(try clear q0);(try clear q7);(try clear q5);(try clear q6);(try clear q12);(try clear q8);(try clear q9);(try clear q15);(try clear q2);(try clear q3)
 obtain ⟨x6,rfl,HA,HK6,BK0,HB⟩:=hrel
 cases gk with
 | zero=>exact absurd HA.out (by simp [carrefourlaw06_node.l4])
 | succ k6 =>skip;{
 have H:=HA.out
 clear HA
 simp only [carrefourlaw06_node.l4] at H
 by_cases c71:0≤x5;{
 rw [if_pos c71] at H
 have c87:decide (0≤x5)=true:=decide_eq_true c71
 clear c71
 by_cases c72:x5<(l9.length:Int);{
 rw [if_pos c72] at H
 have c89:decide (x5<(l9.length:Int))=true:=decide_eq_true c72
 clear c72
 by_cases c73:x6<(((rd_T33 l9 x5).f0).length:Int);{
 rw [if_pos c73] at H
 have c91:decide (x6<(((rd_T33 l9 x5).f0).length:Int))=true:=decide_eq_true c73
 clear c73
 by_cases c74:0≤x6;{
 rw [if_pos c74] at H
 have c93:decide (0≤x6)=true:=decide_eq_true c74
 clear c74
 replace H:=bi_ H;obtain ⟨t4,A75,H⟩:=H
 (try dsimp only at H)
 by_cases c76:t4=true;{
 subst c76
 have H1:(carrefourlaw06_node.l4 k6 x5 (wrap64 (x6+1)) a0 l6 l7 l8 l9 l10 a1)=some r:=by rw [if_pos rfl] at H;exact H
 clear H
 have H:=H1
 clear H1
 have H':=am H
 clear H
 have hcz77:=X.k7 BK0
 have p17:0≤(x5:Int):=od_
 have q16:x5<(l9.length:Int):=od_
 obtain ⟨ad6,A13,c95,e6,hx38,hl3,hi4⟩:=at_T33 HR3.out x5 p17 q16
 obtain rfl:ad5=ad6:=(by injection e6)
 replace hx38:=hx_ HB hx38
 have HR9:=am hi4
 have HC10:=am hl3
 clear hi4 hl3
 replace p17:=eq_true p17
 replace q16:=eq_true q16
 have p18:0≤(x5:Int):=od_
 have q17:x5<(l9.length:Int):=od_
 obtain ⟨ad7,A14,c96,e7,hx39,hl4,hi5⟩:=at_T33 HR3.out x5 p18 q17
 obtain rfl:ad5=ad7:=(by injection e7)
 replace hx39:=hx_ HB hx39
 have HR10:=am hi5
 have HC11:=am hl4
 clear hi5 hl4
 replace p18:=eq_true p18
 replace q17:=eq_true q17
 have ea_:=Option.some.inj (hx38.symm.trans hx39)
 injection ea_ with ea_ en_ ec_
 subst ea_
 subst ec_
 clear en_
 have p19:0≤(x6:Int):=od_
 have q18:x6<(((rd_T33 l9 x5).f0).length:Int):=od_
 obtain ⟨ad8,A15,c97,e8,hx40,hx41,hl5,hi6⟩:=at_T63 HR10.out x6 p19 q18
 cases e8
 replace hx40:=hx_ HB hx40
 replace hx41:=hx_ HB hx41
 have HR11:=am hi6
 have HC12:=am hl5
 clear hi6 hl5
 replace p19:=eq_true p19
 replace q18:=eq_true q18
 go_wp2_with (first|((with_reducible refine gc 37 rfl ?_);refine gm_ (some 148) rfl rfl Tryd.func37 (carrefourlaw06_strings.calls _ _ _ ((rd_T63 ((rd_T33 l9 x5).f0) x6).f1) _ _ ?side1 ?side2 A75.out) ag ?_;(case side1=>repeat (first|exact (Kd.C_below HR11.out HB.out)|(with_reducible refine Kd.C_alloc ?_ _)|(with_reducible refine Kd.C_drewN ?_ _)|(with_reducible refine Kd.C_drew ?_)));(case side2=>exact HC12.out);rintro w' ⟨nd,rfl⟩))
 go_roundg k6
 case measure=>have:=HJ1.out;have:=HK2.out;have:=HK3.out;have:=HK4.out;have:=HK5.out;have:=HK6.out;omega
 case rel=>exact ⟨(wrap64 (x6+1)),(aq),H',⟨by have:=HJ1.out;have:=HK2.out;have:=HK3.out;have:=HK4.out;have:=HK5.out;have:=HK6.out;omega⟩,bu_ BK0,⟨bf HB⟩⟩};{
 replace c76:=Bool.eq_false_iff.mpr c76
 subst c76
 have H1:(some false)=some r:=by rw [if_neg (show ¬ (false=true) by decide)] at H;exact H
 clear H
 have H:=H1
 clear H1
 obtain rfl:=Option.some.inj H
 have hcz78:=X.k7 BK0
 have p17:0≤(x5:Int):=od_
 have q16:x5<(l9.length:Int):=od_
 obtain ⟨ad6,A13,c95,e6,hx38,hl3,hi4⟩:=at_T33 HR3.out x5 p17 q16
 obtain rfl:ad5=ad6:=(by injection e6)
 replace hx38:=hx_ HB hx38
 have HR9:=am hi4
 have HC10:=am hl3
 clear hi4 hl3
 replace p17:=eq_true p17
 replace q16:=eq_true q16
 have p18:0≤(x5:Int):=od_
 have q17:x5<(l9.length:Int):=od_
 obtain ⟨ad7,A14,c96,e7,hx39,hl4,hi5⟩:=at_T33 HR3.out x5 p18 q17
 obtain rfl:ad5=ad7:=(by injection e7)
 replace hx39:=hx_ HB hx39
 have HR10:=am hi5
 have HC11:=am hl4
 clear hi5 hl4
 replace p18:=eq_true p18
 replace q17:=eq_true q17
 have ea_:=Option.some.inj (hx38.symm.trans hx39)
 injection ea_ with ea_ en_ ec_
 subst ea_
 subst ec_
 clear en_
 have p19:0≤(x6:Int):=od_
 have q18:x6<(((rd_T33 l9 x5).f0).length:Int):=od_
 obtain ⟨ad8,A15,c97,e8,hx40,hx41,hl5,hi6⟩:=at_T63 HR10.out x6 p19 q18
 cases e8
 replace hx40:=hx_ HB hx40
 replace hx41:=hx_ HB hx41
 have HR11:=am hi6
 have HC12:=am hl5
 clear hi6 hl5
 replace p19:=eq_true p19
 replace q18:=eq_true q18
 go_wp2_with (first|((with_reducible refine gc 37 rfl ?_);refine gm_ (some 148) rfl rfl Tryd.func37 (carrefourlaw06_strings.calls _ _ _ ((rd_T63 ((rd_T33 l9 x5).f0) x6).f1) _ _ ?side1 ?side2 A75.out) ag ?_;(case side1=>repeat (first|exact (Kd.C_below HR11.out HB.out)|(with_reducible refine Kd.C_alloc ?_ _)|(with_reducible refine Kd.C_drewN ?_ _)|(with_reducible refine Kd.C_drew ?_)));(case side2=>exact HC12.out);rintro w' ⟨nd,rfl⟩))
 go_ret
 exact ⟨by first|rfl|(simp [errW_none,errW_some]<;>rfl)|(simp only [← hji0];first|rfl|(simp [errW_none,errW_some]<;>rfl))|(simp [*,errW_none,errW_some]<;>rfl),bf HB⟩}};{
 rw [if_neg c74] at H
 exact absurd H (by simp)}};{
 rw [if_neg c73] at H
 have c91:decide (x6<(((rd_T33 l9 x5).f0).length:Int))=false:=decide_eq_false c73
 clear c73
 have H':=am H
 clear H
 have hcz79:=X.k7 BK0
 have p17:0≤(x5:Int):=od_
 have q16:x5<(l9.length:Int):=od_
 obtain ⟨ad6,A13,c95,e6,hx38,hl3,hi4⟩:=at_T33 HR3.out x5 p17 q16
 obtain rfl:ad5=ad6:=(by injection e6)
 replace hx38:=hx_ HB hx38
 have HR9:=am hi4
 have HC10:=am hl3
 clear hi4 hl3
 replace p17:=eq_true p17
 replace q16:=eq_true q16
 go_wp2
 go_roundg k6
 case measure=>have:=HJ1.out;have:=HK2.out;have:=HK3.out;have:=HK4.out;have:=HK5.out;have:=HK6.out;omega
 case rel=>exact ⟨(wrap64 (x5+1)),(aq),H',⟨by have:=HJ1.out;have:=HK2.out;have:=HK3.out;have:=HK4.out;have:=HK5.out;have:=HK6.out;omega⟩,bu_ BK0,⟨bf HB⟩⟩}};{
 rw [if_neg c72] at H
 exact absurd H (by simp)}};{
 rw [if_neg c71] at H
 exact absurd H (by simp)}}}}};{
 rw [if_neg c67] at H
 exact absurd H (by simp)}};{
 rw [if_neg c66] at H
 have c75:decide (x5<(l9.length:Int))=false:=decide_eq_false c66
 clear c66
 have H':=am H
 clear H
 have hcz80:=X.k7 BK0
 go_wp2
 go_loopg [9] k5 (fun kq v9 w'=>∃ (x7:Int),v9=.int .i64 x7∧Aside0 (carrefourlaw06_node.l5 kq x7 a0 l6 l7 l8 l9 l10 a1=some r)∧Aside0 (kq≤k5)∧Aside0 (w'.heap[gb0]?=some (.cells #[.string a0,(.slice A0 l6.length c0),(.slice A1 l7.length c9),(.slice A2 l8.length c11),(.slice A3 l9.length c14),(.slice A4 l10.length c15),.int .i64 a1] 28 (0,0)))∧Aside0 (Below w.heap.size w w'))
 case atStart=>exact ⟨(0),(aq),H',⟨Nat.le_refl _⟩,bu_ BK0,⟨bf HB⟩⟩
 case round =>skip;{
 clear H'
 (try clear c1);(try clear p1);(try clear q1);(try clear hx1);(try clear p2);(try clear q2);(try clear c3);(try clear c4);(try clear c5);(try clear c6);(try clear p6);(try clear c7);(try clear p3);(try clear q4);(try clear hx10);(try clear p7);(try clear q7);(try clear hx11);(try clear c12);(try clear p12);(try clear q12);(try clear hx12);(try clear c13);(try clear p13);(try clear q13);(try clear hx13);(try clear q3);(try clear c30);(try clear c53);(try clear c31);(try clear c55);(try clear c33);(try clear c37);(try clear c45);(try clear c59);(try clear c46);(try clear c61);(try clear c48);(try clear c50);(try clear p64);(try clear c66);(try clear c75);(try clear c67);(try clear c78);(try clear c68);(try clear c80);(try clear c83);(try clear c71);(try clear c87);(try clear c72);(try clear c89);(try clear c73);(try clear c91);(try clear c74);(try clear c93);(try clear c76);(try clear hcz3);(try clear hcz4);(try clear hcz6);(try clear hcz8);(try clear hcz44);(try clear hcz51);(try clear hcz55);(try clear hcz56);(try clear hcz5);(try clear hcz60);(try clear hcz61);(try clear hcz65);(try clear hcz69);(try clear hcz70);(try clear hcz77);(try clear hcz78);(try clear hcz79);(try clear hcz7);(try clear hcz80);(try clear hcz9);(try clear hx0);(try clear hx2);(try clear hx15);(try clear hx3);(try clear hx4);(try clear hx5);(try clear hx6);(try clear hx7);(try clear hx8);(try clear hx9);(try clear hx14);(try clear hx17);(try clear hx18);(try clear hx19);(try clear hx20);(try clear hx21);(try clear hx22);(try clear hx23);(try clear hx24);(try clear hx25);(try clear hx26);(try clear hx27);(try clear hx28);(try clear hx30);(try clear hx31);(try clear hx32);(try clear hx33);(try clear hx34);(try clear hx35);(try clear hx37);(try clear hx38);(try clear hx39);(try clear hx40);(try clear hx41);(try clear p1);(try clear p3);(try clear p0);(try clear p7);(try clear p4);(try clear p5);(try clear p12);(try clear p8);(try clear p9);(try clear p16);(try clear p17);(try clear p18);(try clear p19);(try clear p2);(try clear p6);(try clear p64);(try clear q1);(try clear q4);(try clear q0);(try clear q7);(try clear q5);(try clear q6);(try clear q12);(try clear q8);(try clear q9);(try clear q15);(try clear q16);(try clear q17);(try clear q18);(try clear q2);(try clear q3)
 obtain ⟨x7,rfl,HA,HK6,BK0,HB⟩:=hrel
 cases gk with
 | zero=>exact absurd HA.out (by simp [carrefourlaw06_node.l5])
 | succ k6 =>skip;{
 have H:=HA.out
 clear HA
 simp only [carrefourlaw06_node.l5] at H
 by_cases c81:x7<(l10.length:Int);{
 rw [if_pos c81] at H
 have c99:decide (x7<(l10.length:Int))=true:=decide_eq_true c81
 clear c81
 by_cases c82:0≤x7;{
 rw [if_pos c82] at H
 have c101:decide (0≤x7)=true:=decide_eq_true c82
 clear c82
 obtain ⟨y5,hy6⟩:∃ y_:List ByteArray,y_=(([(rd_T100 l10 x7).f0,(rd_T100 l10 x7).f1]:List ByteArray)):=⟨_,rfl⟩
 replace H:((carrefourlaw06_strings.f k6 y5).bind fun t5=>(if t5=true then (carrefourlaw06_node.l5 k6 (wrap64 (x7+1)) a0 l6 l7 l8 l9 l10 a1) else (some false)))=some r:=by first|(rw [hy6];with_reducible exact H)|(have H0:=(Option.bind_some _ _).symm.trans H;rw [hy6];with_reducible exact H0)|(have H0:=(Option.bind_some _ _).symm.trans H;with_reducible exact H0)|with_reducible exact H|(rw [hy6];exact H)|exact H
 have Ny5:=am hy6
 clear hy6
 replace H:=bi_ H;obtain ⟨t5,A83,H⟩:=H
 (try dsimp only at H)
 by_cases c84:t5=true;{
 subst c84
 have H1:(carrefourlaw06_node.l5 k6 (wrap64 (x7+1)) a0 l6 l7 l8 l9 l10 a1)=some r:=by rw [if_pos rfl] at H;exact H
 clear H
 have H:=H1
 clear H1
 have H':=am H
 clear H
 have hcz85:=X.k7 BK0
 try go_wp2
 replace BK0:=am (blk_drew BK0.out)
 replace HB:=am (below_drew1 HB.out)
 have p21:0≤(x7:Int):=od_
 have q20:x7<(l10.length:Int):=od_
 obtain ⟨ad9,e9,hx43,hx44,hx45⟩:=at_T100 HR4.out x7 p21 q20
 have hw12:=hx45
 have hw13:=hx44
 have hw14:=hx43
 cases e9
 replace hx43:=hx_ HB hx43
 replace hx44:=hx_ HB hx44
 replace hx45:=hx_ HB hx45
 replace p21:=eq_true p21
 replace q20:=eq_true q20
 have p22:0≤(x7:Int):=od_
 have q21:x7<(l10.length:Int):=od_
 obtain ⟨ad10,e10,hx46,hx47,hx48⟩:=at_T100 HR4.out x7 p22 q21
 have hw15:=hx48
 have hw16:=hx47
 have hw17:=hx46
 obtain rfl:ad9=ad10:=(by injection e10)
 replace hx46:=hx_ HB hx46
 replace hx47:=hx_ HB hx47
 replace hx48:=hx_ HB hx48
 replace p22:=eq_true p22
 replace q21:=eq_true q21
 refine start_ (n:=15) (S:=fun w'=>c_ w' gb0 0 (.string a0)∧c_ w' gb0 1 (.slice A0 l6.length c0)∧c_ w' gb0 2 (.slice A1 l7.length c9)∧c_ w' gb0 3 (.slice A2 l8.length c11)∧c_ w' gb0 4 (.slice A3 l9.length c14)∧c_ w' gb0 5 (.slice (some ad9) l10.length c15)∧c_ w' gb0 6 (.int .i64 a1)∧w'.cell? (ad9.add ((x7).toNat*3))=some (.string ((rd_T100 l10 x7).f0))∧w'.cell? ⟨(ad9.add ((x7).toNat*3)).block,(ad9.add ((x7).toNat*3)).off+1,none⟩=some (.string ((rd_T100 l10 x7).f1))∧w'.cell? ⟨(ad9.add ((x7).toNat*3)).block,(ad9.add ((x7).toNat*3)).off+2,none⟩=some (.int .i64 ((rd_T100 l10 x7).f2))∧w'.cell? (ad9.add ((x7).toNat*3))=some (.string ((rd_T100 l10 x7).f0))∧w'.cell? ⟨(ad9.add ((x7).toNat*3)).block,(ad9.add ((x7).toNat*3)).off+1,none⟩=some (.string ((rd_T100 l10 x7).f1))∧w'.cell? ⟨(ad9.add ((x7).toNat*3)).block,(ad9.add ((x7).toNat*3)).off+2,none⟩=some (.int .i64 ((rd_T100 l10 x7).f2))) (ds:=[]) (m_ 15 0) (by kernel_rfl) rfl rfl ⟨ct BK0 0,ct BK0 1,ct BK0 2,ct BK0 3,ct BK0 4,ct BK0 5,ct BK0 6,(hx_ HB hw14 :),(hx_ HB hw13 :),(hx_ HB hw12 :),(hx_ HB hw17 :),(hx_ HB hw16 :),(hx_ HB hw15 :)⟩ (fun hHeld=>?_);refine with_tabW carrefourlaw06_node.tab33 carrefourlaw06_node.bits33 (fun HT_ HW_=>?_)
 generalize wr.drew=w86 at BK0 HB hx43 hx44 hx45 hx46 hx47 hx48 hHeld ⊢
 refine pu_ 0 (some 157) (m_ 15 1) rfl rfl (ao HT_) ?_
 refine pu_ 2 (some 159) (m_ 15 5) rfl rfl (ao HT_) ?_
 refine pu_ 6 (some 163) (m_ 15 69) rfl rfl (ao HT_) ?_
 refine pu_ 8 (some 165) (m_ 15 325) rfl rfl (ao HT_) ?_
 refine tk_ 1 (some 158) (m_ 15 327) rfl rfl (tw HT_ HW_) hHeld ?_
 refine pu_ 3 (some 160) (m_ 15 335) rfl rfl (ao HT_) ?_
 refine pu_ 4 (some 161) (m_ 15 351) rfl rfl (ao HT_) ?_
 refine tk_ 5 (some 162) (m_ 15 383) rfl rfl (tw HT_ HW_) hHeld ?_
 refine tk_ 7 (some 164) (m_ 15 511) rfl rfl (tw HT_ HW_) hHeld ?_
 refine pu_ 9 (some 166) (m_ 15 1023) rfl rfl (ao HT_) ?_
 refine pu_ 10 (some 167) (m_ 15 2047) rfl rfl (ao HT_) ?_
 refine tk_ 11 (some 168) (m_ 15 4095) rfl rfl (tw HT_ HW_) hHeld ?_
 refine o1_ 12 (some 169) (m_ 15 8191) rfl rfl (oo HT_) (fun K hK=>?_)
 refine Kd.R_lit_step Kd.string _ 9 ?hg (N:=169) ?hd (xs:=([(rd_T100 l10 x7).f0,(rd_T100 l10 x7).f1]:List ByteArray)) (inner:=[.string ((rd_T100 l10 x7).f0),.string ((rd_T100 l10 x7).f1)]) (ok:=fun _=>True) (okp:=fun _=>True) ?hr ?hp (fun _ hk=>hk) trivial (Below.refl _ _) (Nat.le_refl _) (by simp) ?_;(case hd=>rfl);(case hg=>rfl);(case hr=>first|(go_simp;done)|(go_simp;rfl));(case hp=>exact (Reps.one (show Kd.M Kd.string _ _ _ ((rd_T100 l10 x7).f0) [.string ((rd_T100 l10 x7).f0)] from rfl) (Reps.one (show Kd.M Kd.string _ _ _ ((rd_T100 l10 x7).f1) [.string ((rd_T100 l10 x7).f1)] from rfl) (Reps.none _ _))))
 intro v12 w87 ho6 hb hg_ hnew_
 clear hg_ hnew_
 (first|rw [← Ny5.out] at ho6|(simp only [Int.reduceToNat] at ho6;rw [← Ny5.out] at ho6))
 have HO5:=am (Kd.R_lower ho6 (below_size (bf HB)))
 replace BK0:=bb BK0 hb
 replace HB:=bs HB hb
 clear hb ho6
 obtain ⟨Ao6,co6,eo6⟩:=Kd.R_slice HO5.out
 (first|subst eo6|(injection eo6 with f1_ f2_ f3_;have f4_:=f1_.symm;have f5_:=f3_.symm;clear f1_ f2_ f3_;subst f4_;subst f5_))
 refine hK.out _ _ ⟨ct BK0 0,ct BK0 1,ct BK0 2,ct BK0 3,ct BK0 4,ct BK0 5,ct BK0 6,(hx_ HB hw14 :),(hx_ HB hw13 :),(hx_ HB hw12 :),(hx_ HB hw17 :),(hx_ HB hw16 :),(hx_ HB hw15 :)⟩ (fun hHeld=>?_)
 clear hK K
 refine nr_ (some 169) ?_
 refine o1_ 13 (some 170) (m_ 15 16383) rfl rfl (oo HT_) (fun K hK=>?_)
 refine gs_ rfl Tryd.func37 (carrefourlaw06_strings.calls _ _ _ _ _ _ ?side1 ?side2 A83.out) ag ?_
 (case side1=>exact rc HO5)
 (case side2=>exact (Kd.R_reads' HO5.out).2.1)
 rintro w' ⟨nd,rfl⟩
 refine hK.out _ _ ⟨ct BK0 0,ct BK0 1,ct BK0 2,ct BK0 3,ct BK0 4,ct BK0 5,ct BK0 6,(hx_ HB hw14 :),(hx_ HB hw13 :),(hx_ HB hw12 :),(hx_ HB hw17 :),(hx_ HB hw16 :),(hx_ HB hw15 :)⟩ (fun hHeld=>?_)
 clear hK K
 refine nr_ (some 170) ?_
 refine pu_ 14 (some 171) (m_ 15 32767) rfl rfl (ao HT_) ?_
 refine done_ (done_of HT_.out (by kernel_rfl)) ?_
 try go_wp2
 go_roundg k6
 case measure=>have:=HJ1.out;have:=HK2.out;have:=HK3.out;have:=HK4.out;have:=HK5.out;have:=HK6.out;omega
 case rel=>exact ⟨(wrap64 (x7+1)),(aq),H',⟨by have:=HJ1.out;have:=HK2.out;have:=HK3.out;have:=HK4.out;have:=HK5.out;have:=HK6.out;omega⟩,bu_ BK0,⟨bf HB⟩⟩};{
 replace c84:=Bool.eq_false_iff.mpr c84
 subst c84
 have H1:(some false)=some r:=by rw [if_neg (show ¬ (false=true) by decide)] at H;exact H
 clear H
 have H:=H1
 clear H1
 obtain rfl:=Option.some.inj H
 have hcz90:=X.k7 BK0
 try go_wp2
 replace BK0:=am (blk_drew BK0.out)
 replace HB:=am (below_drew1 HB.out)
 have p21:0≤(x7:Int):=od_
 have q20:x7<(l10.length:Int):=od_
 obtain ⟨ad9,e9,hx43,hx44,hx45⟩:=at_T100 HR4.out x7 p21 q20
 have hw12:=hx45
 have hw13:=hx44
 have hw14:=hx43
 cases e9
 replace hx43:=hx_ HB hx43
 replace hx44:=hx_ HB hx44
 replace hx45:=hx_ HB hx45
 replace p21:=eq_true p21
 replace q20:=eq_true q20
 have p22:0≤(x7:Int):=od_
 have q21:x7<(l10.length:Int):=od_
 obtain ⟨ad10,e10,hx46,hx47,hx48⟩:=at_T100 HR4.out x7 p22 q21
 have hw15:=hx48
 have hw16:=hx47
 have hw17:=hx46
 obtain rfl:ad9=ad10:=(by injection e10)
 replace hx46:=hx_ HB hx46
 replace hx47:=hx_ HB hx47
 replace hx48:=hx_ HB hx48
 replace p22:=eq_true p22
 replace q21:=eq_true q21
 refine start_ (n:=15) (S:=fun w'=>c_ w' gb0 0 (.string a0)∧c_ w' gb0 1 (.slice A0 l6.length c0)∧c_ w' gb0 2 (.slice A1 l7.length c9)∧c_ w' gb0 3 (.slice A2 l8.length c11)∧c_ w' gb0 4 (.slice A3 l9.length c14)∧c_ w' gb0 5 (.slice (some ad9) l10.length c15)∧c_ w' gb0 6 (.int .i64 a1)∧w'.cell? (ad9.add ((x7).toNat*3))=some (.string ((rd_T100 l10 x7).f0))∧w'.cell? ⟨(ad9.add ((x7).toNat*3)).block,(ad9.add ((x7).toNat*3)).off+1,none⟩=some (.string ((rd_T100 l10 x7).f1))∧w'.cell? ⟨(ad9.add ((x7).toNat*3)).block,(ad9.add ((x7).toNat*3)).off+2,none⟩=some (.int .i64 ((rd_T100 l10 x7).f2))∧w'.cell? (ad9.add ((x7).toNat*3))=some (.string ((rd_T100 l10 x7).f0))∧w'.cell? ⟨(ad9.add ((x7).toNat*3)).block,(ad9.add ((x7).toNat*3)).off+1,none⟩=some (.string ((rd_T100 l10 x7).f1))∧w'.cell? ⟨(ad9.add ((x7).toNat*3)).block,(ad9.add ((x7).toNat*3)).off+2,none⟩=some (.int .i64 ((rd_T100 l10 x7).f2))) (ds:=[]) (m_ 15 0) (by kernel_rfl) rfl rfl ⟨ct BK0 0,ct BK0 1,ct BK0 2,ct BK0 3,ct BK0 4,ct BK0 5,ct BK0 6,(hx_ HB hw14 :),(hx_ HB hw13 :),(hx_ HB hw12 :),(hx_ HB hw17 :),(hx_ HB hw16 :),(hx_ HB hw15 :)⟩ (fun hHeld=>?_);refine with_tabW carrefourlaw06_node.tab33 carrefourlaw06_node.bits33 (fun HT_ HW_=>?_)
 generalize wr.drew=w91 at BK0 HB hx43 hx44 hx45 hx46 hx47 hx48 hHeld ⊢
 refine pu_ 0 (some 157) (m_ 15 1) rfl rfl (ao HT_) ?_
 refine pu_ 2 (some 159) (m_ 15 5) rfl rfl (ao HT_) ?_
 refine pu_ 6 (some 163) (m_ 15 69) rfl rfl (ao HT_) ?_
 refine pu_ 8 (some 165) (m_ 15 325) rfl rfl (ao HT_) ?_
 refine tk_ 1 (some 158) (m_ 15 327) rfl rfl (tw HT_ HW_) hHeld ?_
 refine pu_ 3 (some 160) (m_ 15 335) rfl rfl (ao HT_) ?_
 refine pu_ 4 (some 161) (m_ 15 351) rfl rfl (ao HT_) ?_
 refine tk_ 5 (some 162) (m_ 15 383) rfl rfl (tw HT_ HW_) hHeld ?_
 refine tk_ 7 (some 164) (m_ 15 511) rfl rfl (tw HT_ HW_) hHeld ?_
 refine pu_ 9 (some 166) (m_ 15 1023) rfl rfl (ao HT_) ?_
 refine pu_ 10 (some 167) (m_ 15 2047) rfl rfl (ao HT_) ?_
 refine tk_ 11 (some 168) (m_ 15 4095) rfl rfl (tw HT_ HW_) hHeld ?_
 refine o1_ 12 (some 169) (m_ 15 8191) rfl rfl (oo HT_) (fun K hK=>?_)
 refine Kd.R_lit_step Kd.string _ 9 ?hg (N:=169) ?hd (xs:=([(rd_T100 l10 x7).f0,(rd_T100 l10 x7).f1]:List ByteArray)) (inner:=[.string ((rd_T100 l10 x7).f0),.string ((rd_T100 l10 x7).f1)]) (ok:=fun _=>True) (okp:=fun _=>True) ?hr ?hp (fun _ hk=>hk) trivial (Below.refl _ _) (Nat.le_refl _) (by simp) ?_;(case hd=>rfl);(case hg=>rfl);(case hr=>first|(go_simp;done)|(go_simp;rfl));(case hp=>exact (Reps.one (show Kd.M Kd.string _ _ _ ((rd_T100 l10 x7).f0) [.string ((rd_T100 l10 x7).f0)] from rfl) (Reps.one (show Kd.M Kd.string _ _ _ ((rd_T100 l10 x7).f1) [.string ((rd_T100 l10 x7).f1)] from rfl) (Reps.none _ _))))
 intro v12 w92 ho7 hb hg_ hnew_
 clear hg_ hnew_
 (first|rw [← Ny5.out] at ho7|(simp only [Int.reduceToNat] at ho7;rw [← Ny5.out] at ho7))
 have HO5:=am (Kd.R_lower ho7 (below_size (bf HB)))
 replace BK0:=bb BK0 hb
 replace HB:=bs HB hb
 clear hb ho7
 obtain ⟨Ao7,co7,eo7⟩:=Kd.R_slice HO5.out
 (first|subst eo7|(injection eo7 with f1_ f2_ f3_;have f4_:=f1_.symm;have f5_:=f3_.symm;clear f1_ f2_ f3_;subst f4_;subst f5_))
 refine hK.out _ _ ⟨ct BK0 0,ct BK0 1,ct BK0 2,ct BK0 3,ct BK0 4,ct BK0 5,ct BK0 6,(hx_ HB hw14 :),(hx_ HB hw13 :),(hx_ HB hw12 :),(hx_ HB hw17 :),(hx_ HB hw16 :),(hx_ HB hw15 :)⟩ (fun hHeld=>?_)
 clear hK K
 refine nr_ (some 169) ?_
 refine o1_ 13 (some 170) (m_ 15 16383) rfl rfl (oo HT_) (fun K hK=>?_)
 refine gs_ rfl Tryd.func37 (carrefourlaw06_strings.calls _ _ _ _ _ _ ?side1 ?side2 A83.out) ag ?_
 (case side1=>exact rc HO5)
 (case side2=>exact (Kd.R_reads' HO5.out).2.1)
 rintro w' ⟨nd,rfl⟩
 refine hK.out _ _ ⟨ct BK0 0,ct BK0 1,ct BK0 2,ct BK0 3,ct BK0 4,ct BK0 5,ct BK0 6,(hx_ HB hw14 :),(hx_ HB hw13 :),(hx_ HB hw12 :),(hx_ HB hw17 :),(hx_ HB hw16 :),(hx_ HB hw15 :)⟩ (fun hHeld=>?_)
 clear hK K
 refine nr_ (some 170) ?_
 refine pu_ 14 (some 171) (m_ 15 32767) rfl rfl (ao HT_) ?_
 refine done_ (done_of HT_.out (by kernel_rfl)) ?_
 try go_wp2
 go_ret
 exact ⟨by first|rfl|(simp [errW_none,errW_some]<;>rfl)|(simp only [← hji0];first|rfl|(simp [errW_none,errW_some]<;>rfl))|(simp [*,errW_none,errW_some]<;>rfl),bf HB⟩}};{
 rw [if_neg c82] at H
 exact absurd H (by simp)}};{
 rw [if_neg c81] at H
 have c99:decide (x7<(l10.length:Int))=false:=decide_eq_false c81
 clear c81
 obtain rfl:=Option.some.inj H
 have hcz95:=X.k7 BK0
 go_wp2
 go_ret
 exact ⟨by first|rfl|(simp [errW_none,errW_some]<;>rfl)|(simp only [← hji0];first|rfl|(simp [errW_none,errW_some]<;>rfl))|(simp [*,errW_none,errW_some]<;>rfl),bf HB⟩}}}}}}}}}}}}};{
 replace c26:=Bool.eq_false_iff.mpr c26
 subst c26
 have H1:(some false)=some r:=by rw [if_neg (show ¬ (false=true) by decide)] at H;exact H
 clear H
 have H:=H1
 clear H1
 obtain rfl:=Option.some.inj H
 have hcz96:=X.k7 BK0
 obtain ⟨Ao8,co8,eo8⟩:=Kd.R_slice HO1.out
 subst eo8
 have q98:((ji0):Int)≤((x1.length:Int):Int):=od_
 obtain ⟨i098,hi7,_,hsz1,_⟩:=info_parts info9
 have hroom98:x1.length≤co8:=(Kd.R_reads' HO1.out).2.1
 have hC1:Kd.C Kd.string _ Ao8 x1.length x1:=(Kd.R_reads' HO1.out).2.2
 have hcut1:=cut_to (P:=Tryd.prog) 59 9 .i64 Tryd.underlying59 hi7 Ao8 x1.length co8 (ji0) (od_) q98 hroom98
 have hr6:=Kd.C_take (m:=((ji0):Int).toNat) hC1 (by omega)
 have hy7:y2.length=((ji0):Int).toNat:=(by rw [Ny2.out,List.length_take];omega)
 rw [← Ny2.out] at hr6
 rw [← hy7] at hcut1
 have HR5:=am hr6
 have HC6:=am (show y2.length≤co8 from by omega)
 clear hr6 hC1 hroom98 hi7 hsz1
 have KY1:=am hy7
 clear hy7
 have KL1:=am (show ((ji0):Int).toNat≤x1.length from by omega)
 replace q98:=eq_true q98
 go_wp2_with (first|((with_reducible refine gc 37 rfl ?_);refine gm_ (some 62) rfl rfl Tryd.func37 (carrefourlaw06_strings.calls _ _ _ _ _ _ ?side1 ?side2 A5.out) ag ?_;(case side1=>repeat (first|exact (by repeat (first|(with_reducible exact HR5.out)|(with_reducible refine Kd.C_alloc ?_ _)|(with_reducible refine Kd.C_drewN ?_ _)|(with_reducible refine Kd.C_drew ?_)|exact HR5.out))|(with_reducible refine Kd.C_alloc ?_ _)|(with_reducible refine Kd.C_drewN ?_ _)|(with_reducible refine Kd.C_drew ?_)));(case side2=>exact HC6.out);rintro w' ⟨nd,rfl⟩))
 go_ret
 exact ⟨by first|rfl|(simp [errW_none,errW_some]<;>rfl)|(simp only [← hji0];first|rfl|(simp [errW_none,errW_some]<;>rfl))|(simp [*,errW_none,errW_some]<;>rfl),bf HB⟩}};{
 rw [if_neg c24] at H
 exact absurd H (by simp)}};{
 rw [if_neg c23] at H
 exact absurd H (by simp)}}}}}}}
end Go.Proofs.YtenphnkiacfmiaaDoor.X
