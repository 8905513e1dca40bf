/- Walks: each '.calls' says that the Go function comes to what its Lean function tells. Conditions: as each theorem's head says. -/
import Derived.Test.YtenphnkiacfmiaaDoorXD
import Derived.Test.YtenphnkiacfmiaaDoorX0
import Derived.Test.YtenphnkiacfmiaaDoorX20
import Derived.Test.YtenphnkiacfmiaaDoorX21
namespace Go.Proofs.YtenphnkiacfmiaaDoor.X
open Go.RowKit Go.Proofs.YtenphnkiacfmiaaDoorW.PrintWords Go.Proofs.YtenphnkiacfmiaaDoorW.PrintLast Go.Proofs.YtenphnkiacfmiaaDoorW.PrintMore
attribute [local go_sem] max2_int min2_int max_two min_two max_three min_three max_four min_four
set_option linter.unusedVariables false
set_option maxHeartbeats 8000000
set_option maxRecDepth 100000
set_option linter.unusedSimpArgs false
theorem carrefourref02_trim.calls (k:Nat) (A0:Option Addr) (c0:Nat) (l0:List Int) (r:List Int) (w:World) (hr0:Kd.C (Kd.int .u64) w A0 l0.length l0) (hc0:l0.length≤c0) (h:carrefourref02_trim.f k l0=some r) :
  Calls Tryd.prog 28 #[.slice A0 l0.length c0] w fun e w'=>∃ v0:Value,e=.returned (v0)∧Kd.R (Kd.int .u64) 78 w' w.heap.size (fun _=>True) v0 r∧Below w.heap.size w w':=by
 have HR0:=am hr0
 have HC0:=am hc0
 clear hr0 hc0
 have HB:=am (Below.refl w.heap.size w)
 have H:(carrefourref02_trim.l0 k l0 (l0.length:Int))=some r:=h
 clear h
 have H':=am H
 clear H
 go_enter Tryd.func28,Tryd.ntmps28
 go_wp2
 go_loopg [3] k (fun kq v3 w'=>∃ (x0:Int),v3=.int .i64 x0∧Aside0 (carrefourref02_trim.l0 kq l0 x0=some r)∧Aside0 (kq≤k)∧Aside0 (Below w.heap.size w w'))
 case atStart=>exact ⟨((l0.length:Int)),(aq),H',⟨Nat.le_refl _⟩,⟨bf HB⟩⟩
 case round =>skip;{
 clear H'
 obtain ⟨x0,rfl,HA,HK1,HB⟩:=hrel
 cases gk with
 | zero=>exact absurd HA.out (by simp [carrefourref02_trim.l0])
 | succ k1 =>skip;{
 have H:=HA.out
 clear HA
 simp only [carrefourref02_trim.l0] at H
 by_cases c2:x0>0;{
 rw [if_pos c2] at H
 have c1:decide (0<x0)=true:=decide_eq_true c2
 clear c2
 obtain ⟨ji3,hji3⟩:∃ j_:Int,(wrap64 (x0-1))=j_:=⟨_,rfl⟩
 replace H:(if 0≤(ji3) then (if (ji3)<(l0.length:Int) then (if (rd l0 (ji3))=0 then (carrefourref02_trim.l0 k1 l0 ji3) else ((some (([]:List Int):List Int)).bind fun y0=>(if 0≤x0 then (if x0≤(l0.length:Int) then (if y0.length+(l0.take (x0:Int).toNat).length<17592186044416 then (some (y0++(l0.take (x0:Int).toNat))) else (none)) else (none)) else (none)))) else (none)) else (none))=some r:=by first|(rw [hji3] at H;exact H)|(simp only [hji3] at H ⊢;exact H)
 have hji3w:(IntKind.i64.wrap (x0-1))=ji3:=(i64_w _).trans hji3
 by_cases c4:0≤(ji3);{
 rw [if_pos c4] at H
 have c3:decide (0≤(ji3))=true:=decide_eq_true c4
 clear c4
 by_cases c5:(ji3)<(l0.length:Int);{
 rw [if_pos c5] at H
 have c10:decide ((ji3)<(l0.length:Int))=true:=decide_eq_true c5
 clear c5
 by_cases c6:(rd l0 (ji3))=0;{
 rw [if_pos c6] at H
 have c11:((rd l0 (ji3))==0)=true:=beq_iff_eq.mpr c6
 have c12:((rd l0 (ji3)) != 0)=false:=bne_eq_false_iff_eq.mpr c6
 clear c6
 have H':=am H
 clear H
 have p0:0≤((ji3):Int):=od_
 have q0:(ji3)<(l0.length:Int):=od_
 obtain ⟨ad0,e0,hx0⟩:=Kd.at_int HR0.out (ji3) p0 q0
 cases e0
 replace hx0:=hx_ HB hx0
 replace p0:=eq_true p0
 replace q0:=eq_true q0
 go_wp2
 go_roundg k1
 case measure=>have:=HK1.out;omega
 case rel=>exact ⟨(ji3),(by first|rfl|(simp;done)|(simp only [← hji3]<;>(first|rfl|simp))|(simp [*];done)),H',⟨by have:=HK1.out;omega⟩,⟨bf HB⟩⟩};{
 rw [if_neg c6] at H
 have c11:((rd l0 (ji3))==0)=false:=beq_eq_false_iff_ne.mpr c6
 have c12:((rd l0 (ji3)) != 0)=true:=bne_iff_ne.mpr c6
 obtain ⟨y0,hy0⟩:∃ y_:List Int,y_=(([]:List Int)):=⟨_,rfl⟩
 replace H:(if 0≤x0 then (if x0≤(l0.length:Int) then (if y0.length+(l0.take (x0:Int).toNat).length<17592186044416 then (some (y0++(l0.take (x0:Int).toNat))) else (none)) else (none)) else (none))=some r:=by first|(rw [hy0];with_reducible exact H)|(have H0:=(Option.bind_some _ _).symm.trans H;rw [hy0];with_reducible exact H0)|(have H0:=(Option.bind_some _ _).symm.trans H;with_reducible exact H0)|with_reducible exact H|(rw [hy0];exact H)|exact H
 have Ny0:=am hy0
 clear hy0
 by_cases c7:0≤x0;{
 rw [if_pos c7] at H
 have c13:=eq_true c7
 have c17:decide (0≤x0)=true:=decide_eq_true c7
 clear c7
 by_cases c8:x0≤(l0.length:Int);{
 rw [if_pos c8] at H
 have c18:=eq_true c8
 have c19:decide (x0≤(l0.length:Int))=true:=decide_eq_true c8
 clear c8
 by_cases c9:y0.length+(l0.take (x0:Int).toNat).length<17592186044416;{
 rw [if_pos c9] at H
 have LMc9:=am c9
 clear c9
 obtain ⟨y1,hy1⟩:∃ y_:List Int,y_=(y0++(l0.take (x0:Int).toNat)):=⟨_,rfl⟩
 replace H:(some y1)=some r:=by first|(rw [hy1];with_reducible exact H)|(have H0:=(Option.bind_some _ _).symm.trans H;rw [hy1];with_reducible exact H0)|(have H0:=(Option.bind_some _ _).symm.trans H;with_reducible exact H0)|with_reducible exact H|(rw [hy1];exact H)|exact H
 have Ny1:=am hy1
 clear hy1
 obtain rfl:=Option.some.inj H
 have p0:0≤((ji3):Int):=od_
 have q0:(ji3)<(l0.length:Int):=od_
 obtain ⟨ad0,e0,hx0⟩:=Kd.at_int HR0.out (ji3) p0 q0
 cases e0
 replace hx0:=hx_ HB hx0
 replace p0:=eq_true p0
 replace q0:=eq_true q0
 go_wp2_with (first|((with_reducible refine gate_dst (N:=18) rfl ?_);refine Kd.R_lit (Kd.int .u64) _ 78 ?hg (N:=18) ?hd (xs:=([]:List Int)) (inner:=[]) (ok:=fun _=>True) (okp:=fun _=>True) ?hr ?hp (fun _ hk=>hk) trivial (Below.refl _ _) (Nat.le_refl _) (by simp) ?_;(case hd=>rfl);(case hg=>rfl);(case hr=>first|(go_simp;done)|(go_simp;rfl));(case hp=>exact (Reps.none _ _));intro v1 w1 ho0 hb hg_ hnew_;clear hg_ hnew_;(first|rw [← Ny0.out] at ho0|(simp only [Int.reduceToNat] at ho0;rw [← Ny0.out] at ho0));have HO0:=am (Kd.R_lower ho0 (below_size (bf HB)));replace HB:=bs HB hb;clear hb ho0;obtain ⟨i012,hi0,_,hsz0,_⟩:=info_parts info78;obtain ⟨hcut0,hA0,hC0⟩:=print_take_of (P:=Tryd.prog) (Value.int .u64) 0 75 78 .i64 Tryd.underlying75 hi0 hsz0 (some ad0) c0 l0 x0 (od_) (od_) HC0.out;have HR1:=am (Kd.C_of_reads (h1:=fun _=>rfl) (hA0 _ (Kd.reads_of_C HR0.out)));have HC1:=am hC0;clear hA0 hC0 hi0 hsz0)|((with_reducible refine gate_builtin (b:=.append) (xs:=#[.tmp 18,.tmp 21]) rfl ?_);at_builtin;refine Kd.R_append_rows (Kd.int .u64) (w0:=w) w.heap.size rfl (.tmp 18) (.tmp 21) 75 78 (.int .u64 0) 8 rfl Tryd.underlying75 info78 rfl (by decide) (by omega) v1 y0 (l0.take (x0:Int).toNat) _ _ _ (fun _=>True) (fun _=>False) rfl rfl ?aO ?aR (fun _ _ h=>h) (fun _ h=>h.elim) ?aF ?aB ?aS ?aL ?_;(case aR=>first|(refine cl_ (show (l0.take (x0:Int).toNat).length=x0.toNat from (by rw [List.length_take];have h_:(x0:Int)≤(l0.length:Int):=od_;omega)) ?_;repeat (first|exact (Kd.C_below HR1.out HB.out)|(with_reducible refine Kd.C_alloc ?_ _)|(with_reducible refine Kd.C_drewN ?_ _)|(with_reducible refine Kd.C_drew ?_)))|(repeat (first|exact (Kd.C_below HR1.out HB.out)|(with_reducible refine Kd.C_alloc ?_ _)|(with_reducible refine Kd.C_drewN ?_ _)|(with_reducible refine Kd.C_drew ?_))));(case aB=>exact (bf HB));(case aF=>exact (fun _ _=>trivial));(case aO=>exact (Rt_ HO0.out));(case aS=>exact (below_size (bf HB)));(case aL=>have:=LMc9.out;have hlx_:=(show (l0.take (x0:Int).toNat).length=x0.toNat from (by rw [List.length_take];have h_:(x0:Int)≤(l0.length:Int):=od_;omega));omega);intro v2 w2 ho hb hg hat;rw [← Ny1.out] at ho;have n0:=am (hb);have n1:=am (ho);clear HB;clear HO0;have HB:=n0;have HO1:=n1;clear n0 n1;clear ho hb hg hat))
 go_ret
 exact ⟨_,by first|rfl|(simp [errW_none,errW_some]<;>rfl)|(simp only [← hji3];first|rfl|(simp [errW_none,errW_some]<;>rfl))|(simp [*,errW_none,errW_some]<;>rfl),by (with_reducible repeat (first|apply Kd.R_alloc|apply Kd.R_drewN|apply Kd.R_drew));exact HO1.out,bf HB⟩};{
 rw [if_neg c9] at H
 exact absurd H (by simp)}};{
 rw [if_neg c8] at H
 exact absurd H (by simp)}};{
 rw [if_neg c7] at H
 exact absurd H (by simp)}}};{
 rw [if_neg c5] at H
 exact absurd H (by simp)}};{
 rw [if_neg c4] at H
 exact absurd H (by simp)}};{
 rw [if_neg c2] at H
 have c1:decide (0<x0)=false:=decide_eq_false c2
 clear c2
 obtain ⟨y2,hy2⟩:∃ y_:List Int,y_=(([]:List Int)):=⟨_,rfl⟩
 replace H:(if 0≤x0 then (if x0≤(l0.length:Int) then (if y2.length+(l0.take (x0:Int).toNat).length<17592186044416 then (some (y2++(l0.take (x0:Int).toNat))) else (none)) else (none)) else (none))=some r:=by first|(rw [hy2];with_reducible exact H)|(have H0:=(Option.bind_some _ _).symm.trans H;rw [hy2];with_reducible exact H0)|(have H0:=(Option.bind_some _ _).symm.trans H;with_reducible exact H0)|with_reducible exact H|(rw [hy2];exact H)|exact H
 have Ny2:=am hy2
 clear hy2
 by_cases c14:0≤x0;{
 rw [if_pos c14] at H
 have c21:=eq_true c14
 have c22:decide (0≤x0)=true:=decide_eq_true c14
 clear c14
 by_cases c15:x0≤(l0.length:Int);{
 rw [if_pos c15] at H
 have c24:=eq_true c15
 have c25:decide (x0≤(l0.length:Int))=true:=decide_eq_true c15
 clear c15
 by_cases c16:y2.length+(l0.take (x0:Int).toNat).length<17592186044416;{
 rw [if_pos c16] at H
 have LMc0:=am c16
 clear c16
 obtain ⟨y3,hy3⟩:∃ y_:List Int,y_=(y2++(l0.take (x0:Int).toNat)):=⟨_,rfl⟩
 replace H:(some y3)=some r:=by first|(rw [hy3];with_reducible exact H)|(have H0:=(Option.bind_some _ _).symm.trans H;rw [hy3];with_reducible exact H0)|(have H0:=(Option.bind_some _ _).symm.trans H;with_reducible exact H0)|with_reducible exact H|(rw [hy3];exact H)|exact H
 have Ny3:=am hy3
 clear hy3
 obtain rfl:=Option.some.inj H
 go_wp2_with (first|((with_reducible refine gate_dst (N:=18) rfl ?_);refine Kd.R_lit (Kd.int .u64) _ 78 ?hg (N:=18) ?hd (xs:=([]:List Int)) (inner:=[]) (ok:=fun _=>True) (okp:=fun _=>True) ?hr ?hp (fun _ hk=>hk) trivial (Below.refl _ _) (Nat.le_refl _) (by simp) ?_;(case hd=>rfl);(case hg=>rfl);(case hr=>first|(go_simp;done)|(go_simp;rfl));(case hp=>exact (Reps.none _ _));intro v4 w3 ho1 hb hg_ hnew_;clear hg_ hnew_;(first|rw [← Ny2.out] at ho1|(simp only [Int.reduceToNat] at ho1;rw [← Ny2.out] at ho1));have HO2:=am (Kd.R_lower ho1 (below_size (bf HB)));replace HB:=bs HB hb;clear hb ho1;obtain ⟨i019,hi1,_,hsz1,_⟩:=info_parts info78;obtain ⟨hcut1,hA1,hC1⟩:=print_take_of (P:=Tryd.prog) (Value.int .u64) 0 75 78 .i64 Tryd.underlying75 hi1 hsz1 A0 c0 l0 x0 (od_) (od_) HC0.out;have HR2:=am (Kd.C_of_reads (h1:=fun _=>rfl) (hA1 _ (Kd.reads_of_C HR0.out)));have HC2:=am hC1;clear hA1 hC1 hi1 hsz1)|((with_reducible refine gate_builtin (b:=.append) (xs:=#[.tmp 18,.tmp 21]) rfl ?_);at_builtin;refine Kd.R_append_rows (Kd.int .u64) (w0:=w) w.heap.size rfl (.tmp 18) (.tmp 21) 75 78 (.int .u64 0) 8 rfl Tryd.underlying75 info78 rfl (by decide) (by omega) v4 y2 (l0.take (x0:Int).toNat) _ _ _ (fun _=>True) (fun _=>False) rfl rfl ?aO ?aR (fun _ _ h=>h) (fun _ h=>h.elim) ?aF ?aB ?aS ?aL ?_;(case aR=>first|(refine cl_ (show (l0.take (x0:Int).toNat).length=x0.toNat from (by rw [List.length_take];have h_:(x0:Int)≤(l0.length:Int):=od_;omega)) ?_;repeat (first|exact (Kd.C_below HR2.out HB.out)|(with_reducible refine Kd.C_alloc ?_ _)|(with_reducible refine Kd.C_drewN ?_ _)|(with_reducible refine Kd.C_drew ?_)))|(repeat (first|exact (Kd.C_below HR2.out HB.out)|(with_reducible refine Kd.C_alloc ?_ _)|(with_reducible refine Kd.C_drewN ?_ _)|(with_reducible refine Kd.C_drew ?_))));(case aB=>exact (bf HB));(case aF=>exact (fun _ _=>trivial));(case aO=>exact (Rt_ HO2.out));(case aS=>exact (below_size (bf HB)));(case aL=>have:=LMc0.out;have hlx_:=(show (l0.take (x0:Int).toNat).length=x0.toNat from (by rw [List.length_take];have h_:(x0:Int)≤(l0.length:Int):=od_;omega));omega);intro v5 w4 ho hb hg hat;rw [← Ny3.out] at ho;have n0:=am (hb);have n1:=am (ho);clear HB;clear HO2;have HB:=n0;have HO3:=n1;clear n0 n1;clear ho hb hg hat))
 go_ret
 exact ⟨_,ae,by (with_reducible repeat (first|apply Kd.R_alloc|apply Kd.R_drewN|apply Kd.R_drew));exact HO3.out,bf HB⟩};{
 rw [if_neg c16] at H
 exact absurd H (by simp)}};{
 rw [if_neg c15] at H
 exact absurd H (by simp)}};{
 rw [if_neg c14] at H
 exact absurd H (by simp)}}}}
theorem carrefourref01_Minus.calls (k:Nat) (A0:Option Addr) (c0:Nat) (l0:List Int) (A1:Option Addr) (c1:Nat) (l1:List Int) (r:List Int) (w:World) (hr0:Kd.C (Kd.int .u64) w A0 l0.length l0) (hc0:l0.length≤c0) (hr1:Kd.C (Kd.int .u64) w A1 l1.length l1) (hc1:l1.length≤c1) (h:carrefourref01_Minus.f k l0 l1=some r) :
  Calls Tryd.prog 34 #[.slice A0 l0.length c0,.slice A1 l1.length c1] w fun e w'=>∃ v0:Value,e=.returned (v0)∧Kd.R (Kd.int .u64) 78 w' w.heap.size (fun _=>True) v0 r∧Below w.heap.size w w':=by
 have HR0:=am hr0
 have HC0:=am hc0
 clear hr0 hc0
 have HR1:=am hr1
 have HC1:=am hc1
 clear hr1 hc1
 have HB:=am (Below.refl w.heap.size w)
 have H:(carrefourref01_Minus.l0 k l0 l1 ([]:List Int) 0 0)=some r:=h
 clear h
 have H':=am H
 clear H
 go_enter Tryd.func34,Tryd.ntmps34
 go_wp2
 go_loopg [5,6,7] k (fun kq v5 v6 v7 w'=>∃ (x0:List Int) (x1:Int) (x2:Int),v6=.int .u64 x1∧v7=.int .i64 x2∧Aside0 (carrefourref01_Minus.l0 kq l0 l1 x0 x1 x2=some r)∧Aside0 (kq≤k)∧Aside0 (Kd.R (Kd.int .u64) 78 w' w.heap.size (fun _=>True) v5 x0)∧Aside0 (Below w.heap.size w w'))
 case atStart=>exact ⟨(([]:List Int)),(0),(0),(aq),(aq),H',⟨Nat.le_refl _⟩,⟨by first|exact Kd.R_nil _ _ _ _ _|exact Kd.N_nil _ _ _ _ _|exact Kd.V_nil _ _ _ _ _|exact Kd.Q_nil _ _ _ _ _|exact Kd.S_nil _ _ _ _ _⟩,⟨bf HB⟩⟩
 case round =>skip;{
 clear H'
 (try clear c1);(try clear p2)
 obtain ⟨x0,x1,x2,rfl,rfl,HA,HK1,HO0,HB⟩:=hrel
 cases gk with
 | zero=>exact absurd HA.out (by simp [carrefourref01_Minus.l0])
 | succ k1 =>skip;{
 have H:=HA.out
 clear HA
 simp only [carrefourref01_Minus.l0] at H
 by_cases c3:x2<(l0.length:Int);{
 rw [if_pos c3] at H
 have c2:decide (x2<(l0.length:Int))=true:=decide_eq_true c3
 clear c3
 by_cases c4:x2<(l1.length:Int);{
 rw [if_pos c4] at H
 have c8:decide (x2<(l1.length:Int))=true:=decide_eq_true c4
 clear c4
 by_cases c5:0≤x2;{
 rw [if_pos c5] at H
 have c10:decide (0≤x2)=true:=decide_eq_true c5
 clear c5
 by_cases c6:(rd l0 x2)≥(IntKind.u64.wrap (x1+(rd l1 x2)));{
 rw [if_pos c6] at H
 have c14:decide ((IntKind.u64.wrap (x1+(rd l1 x2)))≤(rd l0 x2))=true:=decide_eq_true c6
 clear c6
 by_cases c7:x0.length<17592186044416;{
 rw [if_pos c7] at H
 have LMc7:=am c7
 clear c7
 obtain ⟨y0,hy0⟩:∃ y_:List Int,y_=(x0++[IntKind.u64.wrap ((rd l0 x2)-(IntKind.u64.wrap (x1+(rd l1 x2))))]):=⟨_,rfl⟩
 replace H:(carrefourref01_Minus.l0 k1 l0 l1 y0 0 (wrap64 (x2+1)))=some r:=by first|(rw [hy0];with_reducible exact H)|(have H0:=(Option.bind_some _ _).symm.trans H;rw [hy0];with_reducible exact H0)|(have H0:=(Option.bind_some _ _).symm.trans H;with_reducible exact H0)|with_reducible exact H|(rw [hy0];exact H)|exact H
 have Ny0:=am hy0
 clear hy0
 have H':=am H
 clear H
 have p0:0≤(x2:Int):=od_
 have q0:x2<(l1.length:Int):=od_
 obtain ⟨ad0,e0,hx0⟩:=Kd.at_int HR1.out x2 p0 q0
 cases e0
 replace hx0:=hx_ HB hx0
 replace p0:=eq_true p0
 replace q0:=eq_true q0
 have p1:0≤(x2:Int):=od_
 have q1:x2<(l0.length:Int):=od_
 obtain ⟨ad1,e1,hx1⟩:=Kd.at_int HR0.out x2 p1 q1
 cases e1
 replace hx1:=hx_ HB hx1
 replace p1:=eq_true p1
 replace q1:=eq_true q1
 have p3:0≤(x2:Int):=od_
 have q2:x2<(l0.length:Int):=od_
 obtain ⟨ad2,e2,hx2⟩:=Kd.at_int HR0.out x2 p3 q2
 obtain rfl:ad1=ad2:=(by injection e2)
 replace hx2:=hx_ HB hx2
 replace p3:=eq_true p3
 replace q2:=eq_true q2
 go_wp2_with (first|((with_reducible refine gate_builtin (b:=.append) (xs:=#[.tmp 32,.tmp 39]) rfl ?_);at_builtin;refine Kd.R_append (Kd.int .u64) (w0:=w) w.heap.size rfl (.tmp 32) (.tmp 39) 75 78 (.int .u64 0) 8 rfl Tryd.underlying75 info78 rfl (by decide) (by omega) u5 x0 (IntKind.u64.wrap ((rd l0 x2)-(IntKind.u64.wrap (x1+(rd l1 x2))))) [.int .u64 (IntKind.u64.wrap ((rd l0 x2)-(IntKind.u64.wrap (x1+(rd l1 x2)))))] (fun _=>True) (fun _=>False) rfl rfl ?aP (fun _ hk=>hk.elim) ?aF ?aO ?aB ?aS ?aL ?_;(case aP=>exact rfl);(case aB=>exact (bf HB));(case aF=>exact (fun _ _=>trivial));(case aO=>exact (Rt_ HO0.out));(case aS=>exact (below_size (bf HB)));(case aL=>have:=LMc7.out;omega);intro v1 w8 ho hb hg hat;rw [← Ny0.out] at ho;have n0:=am (hb);have n1:=am (ho);clear HB;clear HO0;have HB:=n0;have HO1:=n1;clear n0 n1;clear ho hb hg hat))
 go_roundg k1
 case measure=>have:=HK1.out;omega
 case rel=>exact ⟨(y0),(0),(wrap64 (x2+1)),(aq),(aq),H',⟨by have:=HK1.out;omega⟩,⟨Rt_ HO1.out⟩,⟨bf HB⟩⟩};{
 rw [if_neg c7] at H
 exact absurd H (by simp)}};{
 rw [if_neg c6] at H
 have c14:decide ((IntKind.u64.wrap (x1+(rd l1 x2)))≤(rd l0 x2))=false:=decide_eq_false c6
 clear c6
 by_cases c9:x0.length<17592186044416;{
 rw [if_pos c9] at H
 have LMc9:=am c9
 clear c9
 obtain ⟨y1,hy1⟩:∃ y_:List Int,y_=(x0++[IntKind.u64.wrap ((IntKind.u64.wrap ((rd l0 x2)+65536))-(IntKind.u64.wrap (x1+(rd l1 x2))))]):=⟨_,rfl⟩
 replace H:(carrefourref01_Minus.l0 k1 l0 l1 y1 1 (wrap64 (x2+1)))=some r:=by first|(rw [hy1];with_reducible exact H)|(have H0:=(Option.bind_some _ _).symm.trans H;rw [hy1];with_reducible exact H0)|(have H0:=(Option.bind_some _ _).symm.trans H;with_reducible exact H0)|with_reducible exact H|(rw [hy1];exact H)|exact H
 have Ny1:=am hy1
 clear hy1
 have H':=am H
 clear H
 have p0:0≤(x2:Int):=od_
 have q0:x2<(l1.length:Int):=od_
 obtain ⟨ad0,e0,hx0⟩:=Kd.at_int HR1.out x2 p0 q0
 cases e0
 replace hx0:=hx_ HB hx0
 replace p0:=eq_true p0
 replace q0:=eq_true q0
 have p1:0≤(x2:Int):=od_
 have q1:x2<(l0.length:Int):=od_
 obtain ⟨ad1,e1,hx1⟩:=Kd.at_int HR0.out x2 p1 q1
 cases e1
 replace hx1:=hx_ HB hx1
 replace p1:=eq_true p1
 replace q1:=eq_true q1
 have p4:0≤(x2:Int):=od_
 have q3:x2<(l0.length:Int):=od_
 obtain ⟨ad3,e3,hx3⟩:=Kd.at_int HR0.out x2 p4 q3
 obtain rfl:ad1=ad3:=(by injection e3)
 replace hx3:=hx_ HB hx3
 replace p4:=eq_true p4
 replace q3:=eq_true q3
 go_wp2_with (first|((with_reducible refine gate_builtin (b:=.append) (xs:=#[.tmp 41,.tmp 49]) rfl ?_);at_builtin;refine Kd.R_append (Kd.int .u64) (w0:=w) w.heap.size rfl (.tmp 41) (.tmp 49) 75 78 (.int .u64 0) 8 rfl Tryd.underlying75 info78 rfl (by decide) (by omega) u5 x0 (IntKind.u64.wrap ((IntKind.u64.wrap ((rd l0 x2)+65536))-(IntKind.u64.wrap (x1+(rd l1 x2))))) [.int .u64 (IntKind.u64.wrap ((IntKind.u64.wrap ((rd l0 x2)+65536))-(IntKind.u64.wrap (x1+(rd l1 x2)))))] (fun _=>True) (fun _=>False) rfl rfl ?aP (fun _ hk=>hk.elim) ?aF ?aO ?aB ?aS ?aL ?_;(case aP=>exact rfl);(case aB=>exact (bf HB));(case aF=>exact (fun _ _=>trivial));(case aO=>exact (Rt_ HO0.out));(case aS=>exact (below_size (bf HB)));(case aL=>have:=LMc9.out;omega);intro v2 w1 ho hb hg hat;rw [← Ny1.out] at ho;have n0:=am (hb);have n1:=am (ho);clear HB;clear HO0;have HB:=n0;have HO2:=n1;clear n0 n1;clear ho hb hg hat))
 go_roundg k1
 case measure=>have:=HK1.out;omega
 case rel=>exact ⟨(y1),(1),(wrap64 (x2+1)),(aq),(aq),H',⟨by have:=HK1.out;omega⟩,⟨Rt_ HO2.out⟩,⟨bf HB⟩⟩};{
 rw [if_neg c9] at H
 exact absurd H (by simp)}}};{
 rw [if_neg c5] at H
 exact absurd H (by simp)}};{
 rw [if_neg c4] at H
 have c8:decide (x2<(l1.length:Int))=false:=decide_eq_false c4
 clear c4
 by_cases c11:0≤x2;{
 rw [if_pos c11] at H
 have c17:decide (0≤x2)=true:=decide_eq_true c11
 clear c11
 by_cases c12:(rd l0 x2)≥x1;{
 rw [if_pos c12] at H
 have c19:decide (x1≤(rd l0 x2))=true:=decide_eq_true c12
 clear c12
 by_cases c13:x0.length<17592186044416;{
 rw [if_pos c13] at H
 have LMc0:=am c13
 clear c13
 obtain ⟨y2,hy2⟩:∃ y_:List Int,y_=(x0++[IntKind.u64.wrap ((rd l0 x2)-x1)]):=⟨_,rfl⟩
 replace H:(carrefourref01_Minus.l0 k1 l0 l1 y2 0 (wrap64 (x2+1)))=some r:=by first|(rw [hy2];with_reducible exact H)|(have H0:=(Option.bind_some _ _).symm.trans H;rw [hy2];with_reducible exact H0)|(have H0:=(Option.bind_some _ _).symm.trans H;with_reducible exact H0)|with_reducible exact H|(rw [hy2];exact H)|exact H
 have Ny2:=am hy2
 clear hy2
 have H':=am H
 clear H
 have p5:0≤(x2:Int):=od_
 have q4:x2<(l0.length:Int):=od_
 obtain ⟨ad4,e4,hx4⟩:=Kd.at_int HR0.out x2 p5 q4
 cases e4
 replace hx4:=hx_ HB hx4
 replace p5:=eq_true p5
 replace q4:=eq_true q4
 have p6:0≤(x2:Int):=od_
 have q5:x2<(l0.length:Int):=od_
 obtain ⟨ad5,e5,hx5⟩:=Kd.at_int HR0.out x2 p6 q5
 obtain rfl:ad4=ad5:=(by injection e5)
 replace hx5:=hx_ HB hx5
 replace p6:=eq_true p6
 replace q5:=eq_true q5
 go_wp2_with (first|((with_reducible refine gate_builtin (b:=.append) (xs:=#[.tmp 32,.tmp 39]) rfl ?_);at_builtin;refine Kd.R_append (Kd.int .u64) (w0:=w) w.heap.size rfl (.tmp 32) (.tmp 39) 75 78 (.int .u64 0) 8 rfl Tryd.underlying75 info78 rfl (by decide) (by omega) u5 x0 (IntKind.u64.wrap ((rd l0 x2)-x1)) [.int .u64 (IntKind.u64.wrap ((rd l0 x2)-x1))] (fun _=>True) (fun _=>False) rfl rfl ?aP (fun _ hk=>hk.elim) ?aF ?aO ?aB ?aS ?aL ?_;(case aP=>exact rfl);(case aB=>exact (bf HB));(case aF=>exact (fun _ _=>trivial));(case aO=>exact (Rt_ HO0.out));(case aS=>exact (below_size (bf HB)));(case aL=>have:=LMc0.out;omega);intro v3 w2 ho hb hg hat;rw [← Ny2.out] at ho;have n0:=am (hb);have n1:=am (ho);clear HB;clear HO0;have HB:=n0;have HO3:=n1;clear n0 n1;clear ho hb hg hat))
 go_roundg k1
 case measure=>have:=HK1.out;omega
 case rel=>exact ⟨(y2),(0),(wrap64 (x2+1)),(aq),(aq),H',⟨by have:=HK1.out;omega⟩,⟨Rt_ HO3.out⟩,⟨bf HB⟩⟩};{
 rw [if_neg c13] at H
 exact absurd H (by simp)}};{
 rw [if_neg c12] at H
 have c19:decide (x1≤(rd l0 x2))=false:=decide_eq_false c12
 clear c12
 by_cases c15:x0.length<17592186044416;{
 rw [if_pos c15] at H
 have LMc1:=am c15
 clear c15
 obtain ⟨y3,hy3⟩:∃ y_:List Int,y_=(x0++[IntKind.u64.wrap ((IntKind.u64.wrap ((rd l0 x2)+65536))-x1)]):=⟨_,rfl⟩
 replace H:(carrefourref01_Minus.l0 k1 l0 l1 y3 1 (wrap64 (x2+1)))=some r:=by first|(rw [hy3];with_reducible exact H)|(have H0:=(Option.bind_some _ _).symm.trans H;rw [hy3];with_reducible exact H0)|(have H0:=(Option.bind_some _ _).symm.trans H;with_reducible exact H0)|with_reducible exact H|(rw [hy3];exact H)|exact H
 have Ny3:=am hy3
 clear hy3
 have H':=am H
 clear H
 have p5:0≤(x2:Int):=od_
 have q4:x2<(l0.length:Int):=od_
 obtain ⟨ad4,e4,hx4⟩:=Kd.at_int HR0.out x2 p5 q4
 cases e4
 replace hx4:=hx_ HB hx4
 replace p5:=eq_true p5
 replace q4:=eq_true q4
 have p7:0≤(x2:Int):=od_
 have q6:x2<(l0.length:Int):=od_
 obtain ⟨ad6,e6,hx6⟩:=Kd.at_int HR0.out x2 p7 q6
 obtain rfl:ad4=ad6:=(by injection e6)
 replace hx6:=hx_ HB hx6
 replace p7:=eq_true p7
 replace q6:=eq_true q6
 go_wp2_with (first|((with_reducible refine gate_builtin (b:=.append) (xs:=#[.tmp 41,.tmp 49]) rfl ?_);at_builtin;refine Kd.R_append (Kd.int .u64) (w0:=w) w.heap.size rfl (.tmp 41) (.tmp 49) 75 78 (.int .u64 0) 8 rfl Tryd.underlying75 info78 rfl (by decide) (by omega) u5 x0 (IntKind.u64.wrap ((IntKind.u64.wrap ((rd l0 x2)+65536))-x1)) [.int .u64 (IntKind.u64.wrap ((IntKind.u64.wrap ((rd l0 x2)+65536))-x1))] (fun _=>True) (fun _=>False) rfl rfl ?aP (fun _ hk=>hk.elim) ?aF ?aO ?aB ?aS ?aL ?_;(case aP=>exact rfl);(case aB=>exact (bf HB));(case aF=>exact (fun _ _=>trivial));(case aO=>exact (Rt_ HO0.out));(case aS=>exact (below_size (bf HB)));(case aL=>have:=LMc1.out;omega);intro v4 w3 ho hb hg hat;rw [← Ny3.out] at ho;have n0:=am (hb);have n1:=am (ho);clear HB;clear HO0;have HB:=n0;have HO4:=n1;clear n0 n1;clear ho hb hg hat))
 go_roundg k1
 case measure=>have:=HK1.out;omega
 case rel=>exact ⟨(y3),(1),(wrap64 (x2+1)),(aq),(aq),H',⟨by have:=HK1.out;omega⟩,⟨Rt_ HO4.out⟩,⟨bf HB⟩⟩};{
 rw [if_neg c15] at H
 exact absurd H (by simp)}}};{
 rw [if_neg c11] at H
 exact absurd H (by simp)}}};{
 rw [if_neg c3] at H
 have c2:decide (x2<(l0.length:Int))=false:=decide_eq_false c3
 clear c3
 obtain rfl:=Option.some.inj H
 go_wp2
 go_ret
 exact ⟨_,ae,by (with_reducible repeat (first|apply Kd.R_alloc|apply Kd.R_drewN|apply Kd.R_drew));exact HO0.out,bf HB⟩}}}
theorem carrefourref02_twice.calls (k:Nat) (A0:Option Addr) (c0:Nat) (l0:List Int) (r:List Int) (w:World) (hr0:Kd.C (Kd.int .u64) w A0 l0.length l0) (hc0:l0.length≤c0) (h:carrefourref02_twice.f k l0=some r) :
  Calls Tryd.prog 55 #[.slice A0 l0.length c0] w fun e w'=>∃ v0:Value,e=.returned (v0)∧Kd.R (Kd.int .u64) 78 w' w.heap.size (fun _=>True) v0 r∧Below w.heap.size w w':=by
 have HR0:=am hr0
 have HC0:=am hc0
 clear hr0 hc0
 have HB:=am (Below.refl w.heap.size w)
 have H:((carrefourref01_Plus.f k l0 l0).bind fun t0=>(some t0))=some r:=h
 clear h
 replace H:=bi_ H;obtain ⟨t0,A2,H⟩:=H
 (try dsimp only at H)
 obtain rfl:=Option.some.inj H
 go_enter Tryd.func55,Tryd.ntmps55
 go_wp2_with (first|((with_reducible refine gc 32 rfl ?_);refine gl_ (some 5) rfl rfl Tryd.func32 ((carrefourref01_Plus.calls _ _ _ _ _ _ _ _ _ ?side1 ?side2 ?side3 ?side4 A2.out).mono ?_) ag;(case side1=>repeat (first|exact HR0.out|(with_reducible refine Kd.C_alloc ?_ _)|(with_reducible refine Kd.C_drewN ?_ _)|(with_reducible refine Kd.C_drew ?_)));(case side2=>exact HC0.out);(case side3=>repeat (first|exact HR0.out|(with_reducible refine Kd.C_alloc ?_ _)|(with_reducible refine Kd.C_drewN ?_ _)|(with_reducible refine Kd.C_drew ?_)));(case side4=>exact HC0.out);rintro e w3 ⟨v1,rfl,ho0,hb⟩;refine ⟨_,rfl,?_⟩;have HO0:=am (Kd.R_lower ho0 (below_size (bf HB)));replace HB:=bs HB hb;(try clear hb);(try clear ho0)))
 go_ret
 exact ⟨_,ae,by (with_reducible repeat (first|apply Kd.R_alloc|apply Kd.R_drewN|apply Kd.R_drew));exact HO0.out,bf HB⟩
theorem carrefourref02_rest.calls (k:Nat) (P0:Nat→Prop) (A0:Option Addr) (c0:Nat) (l0:List Int) (P1:Nat→Prop) (A1:Option Addr) (c1:Nat) (l1:List Int) (r:List Int) (w:World) (hs0:Kd.V (Kd.int .u64) 78 w w.heap.size (fun k_=>P0 k_) (.slice A0 l0.length c0) l0) (hs1:Kd.V (Kd.int .u64) 78 w w.heap.size (fun k_=>P1 k_) (.slice A1 l1.length c1) l1) (h:carrefourref02_rest.f k l0 l1=some r) :
  Calls Tryd.prog 46 #[.slice A0 l0.length c0,.slice A1 l1.length c1] w fun e w'=>∃ v1:Value,e=.returned (v1)∧Kd.V (Kd.int .u64) 78 w' w.heap.size (fun k_=>((P0 k_∨P1 k_)∨w.heap.size≤k_)) v1 r∧Below w.heap.size w w':=by
 have HO0:=am (show Kd.V (Kd.int .u64) 78 w w.heap.size (fun k_=>((P0 k_∨P1 k_)∨w.heap.size≤k_)) (.slice A0 l0.length c0) l0 from Kd.V_mono hs0 (fun k_ hk=>.inl (.inl hk)))
 have HO1:=am (show Kd.V (Kd.int .u64) 78 w w.heap.size (fun k_=>((P0 k_∨P1 k_)∨w.heap.size≤k_)) (.slice A1 l1.length c1) l1 from Kd.V_mono hs1 (fun k_ hk=>.inl (.inr hk)))
 have HB:=am (Below.refl w.heap.size w)
 have H:(carrefourref02_rest.l0 k l0 ([]:List (List Int)) l1)=some r:=h
 clear h
 have H':=am H
 clear H
 go_enter Tryd.func46,Tryd.ntmps46
 go_wp2
 go_loopg [5,6] k (fun kq v5 v6 w'=>∃ (x0:List (List Int)) (x1:List Int),Aside0 (carrefourref02_rest.l0 kq l0 x0 x1=some r)∧Aside0 (kq≤k)∧Aside0 (Kd.V (Kd.int .u64) 78 w' w.heap.size (fun k_=>((P0 k_∨P1 k_)∨w.heap.size≤k_)∧some k_≠(v5:Value).ownBlock) (.slice A0 l0.length c0) l0)∧Aside0 (Kd.N (Kd.slice 78 (Kd.int .u64)) 75 w' w.heap.size (fun k_=>((P0 k_∨P1 k_)∨w.heap.size≤k_)) v5 x0)∧Aside0 (Kd.V (Kd.int .u64) 78 w' w.heap.size (fun k_=>((P0 k_∨P1 k_)∨w.heap.size≤k_)∧some k_≠(v5:Value).ownBlock) v6 x1)∧Aside0 (Below w.heap.size w w'))
 case atStart=>exact ⟨(([]:List (List Int))),(l1),H',⟨Nat.le_refl _⟩,⟨Vt_ (Kd.V_mono HO0.out (fun _ hk=>⟨hk,(by simp [Value.ownBlock])⟩))⟩,⟨by first|exact Kd.S_nil _ _ _ _ _|exact Kd.N_nil _ _ _ _ _|exact Kd.V_nil _ _ _ _ _|exact Kd.Q_nil _ _ _ _ _|exact Kd.R_nil _ _ _ _ _⟩,⟨Vt_ (Kd.V_mono HO1.out (fun _ hk=>⟨hk,(by simp [Value.ownBlock])⟩))⟩,⟨bf HB⟩⟩
 case round =>skip;{
 clear H'
 (try clear c1);(try clear p2)
 obtain ⟨x0,x1,HA,HK1,HO2,HO3,HO4,HB⟩:=hrel
 cases gk with
 | zero=>exact absurd HA.out (by simp [carrefourref02_rest.l0])
 | succ k1 =>skip;{
 have H:=HA.out
 clear HA
 simp only [carrefourref02_rest.l0] at H
 replace H:=bi_ H;obtain ⟨t0,A3,H⟩:=H
 (try dsimp only at H)
 by_cases c4:t0≤0;{
 rw [if_pos c4] at H
 have c2:decide (t0≤0)=true:=decide_eq_true c4
 clear c4
 by_cases c5:x0.length<5864062014805;{
 rw [if_pos c5] at H
 have LMc5:=am c5
 clear c5
 obtain ⟨y0,hy0⟩:∃ y_:List (List Int),y_=(x0++[x1]):=⟨_,rfl⟩
 replace H:((carrefourref02_twice.f k1 x1).bind fun t1=>(carrefourref02_rest.l0 k1 l0 y0 t1))=some r:=by first|(rw [hy0];with_reducible exact H)|(have H0:=(Option.bind_some _ _).symm.trans H;rw [hy0];with_reducible exact H0)|(have H0:=(Option.bind_some _ _).symm.trans H;with_reducible exact H0)|with_reducible exact H|(rw [hy0];exact H)|exact H
 have Ny0:=am hy0
 clear hy0
 replace H:=bi_ H;obtain ⟨t1,A6,H⟩:=H
 (try dsimp only at H)
 have H':=am H
 clear H
 obtain ⟨Ao7,co7,eo7⟩:=Kd.V_slice HO4.out
 subst eo7
 go_wp2_with (first|((with_reducible refine gc 33 rfl ?_);refine gm_ (some 11) rfl rfl Tryd.func33 (carrefourref01_Order.calls _ _ _ _ _ _ _ _ _ ?side1 ?side2 ?side3 ?side4 A3.out) ag ?_;(case side1=>repeat (first|exact (Kd.V_reads' HO4.out).2.2|(with_reducible refine Kd.C_alloc ?_ _)|(with_reducible refine Kd.C_drewN ?_ _)|(with_reducible refine Kd.C_drew ?_)));(case side2=>exact (Kd.V_reads' HO4.out).2.1);(case side3=>repeat (first|exact (Kd.V_reads' HO2.out).2.2|(with_reducible refine Kd.C_alloc ?_ _)|(with_reducible refine Kd.C_drewN ?_ _)|(with_reducible refine Kd.C_drew ?_)));(case side4=>exact (Kd.V_reads' HO2.out).2.1);intro w8 hb;replace HO2:=am (Kd.V_below (Vt_ HO2.out) hb);replace HO3:=am (Kd.N_below (Nt_ HO3.out) hb);replace HO4:=am (Kd.V_below (Vt_ HO4.out) hb);replace HB:=bs HB hb;(try clear hb))|((with_reducible refine gate_builtin (b:=.append) (xs:=#[.tmp 15,.tmp 17]) rfl ?_);at_builtin;refine Kd.N_append (Kd.slice 78 (Kd.int .u64)) (w0:=w) w.heap.size rfl (.tmp 15) (.tmp 17) 111 75 (.slice none 0 0) 24 rfl Tryd.underlying111 info75 rfl (by decide) (by omega) u5 x0 x1 [.slice Ao7 x1.length co7] (fun k_=>((P0 k_∨P1 k_)∨w.heap.size≤k_)) (fun k_=>((fun k_=>((P0 k_∨P1 k_)∨w.heap.size≤k_))) k_∧some k_≠(u5:Value).ownBlock) rfl rfl ?aP (fun _ hk=>hk) ?aF ?aO ?aB ?aS ?aL ?_;(case aP=>exact (Kd.FK_slice_mk (Kd.V_reads' (Kd.V_mono (ok':=(fun k_=>((fun k_=>((P0 k_∨P1 k_)∨w.heap.size≤k_))) k_∧some k_≠(u5:Value).ownBlock)) (HO4.out) (fun k_ hk=>⟨hk.1,hk.2⟩))).2.1 (Kd.V_F (Kd.V_mono (ok':=(fun k_=>((fun k_=>((P0 k_∨P1 k_)∨w.heap.size≤k_))) k_∧some k_≠(u5:Value).ownBlock)) (HO4.out) (fun k_ hk=>⟨hk.1,hk.2⟩)))));(case aB=>exact (bf HB));(case aF=>exact (fun k_ hk=>(.inr (Nat.le_trans (below_size (bf HB)) hk))));(case aO=>exact (Nt_ HO3.out));(case aS=>exact (below_size (bf HB)));(case aL=>have:=LMc5.out;omega);intro v2 w9 ho hb hg hat;rw [← Ny0.out] at ho;have n0:=am (Kd.V_afterv (ok:=(fun k_=>((P0 k_∨P1 k_)∨w.heap.size≤k_))) (Vt_ HO2.out) hg hat);have n1:=am (Kd.V_afterv (ok:=(fun k_=>((P0 k_∨P1 k_)∨w.heap.size≤k_))) (Vt_ HO4.out) hg hat);have n2:=am (hb);have n3:=am (ho);clear HO2;clear HO4;clear HB;clear HO3;have HO2:=n0;have HO4:=n1;have HB:=n2;have HO5:=n3;clear n0 n1 n2 n3;clear ho hb hg hat)|((with_reducible refine gc 55 rfl ?_);refine gl_ (some 14) rfl rfl Tryd.func55 ((carrefourref02_twice.calls _ _ _ _ _ _ ?side1 ?side2 A6.out).mono ?_) ag;(case side1=>repeat (first|exact (Kd.V_reads' HO4.out).2.2|(with_reducible refine Kd.C_alloc ?_ _)|(with_reducible refine Kd.C_drewN ?_ _)|(with_reducible refine Kd.C_drew ?_)));(case side2=>exact (Kd.V_reads' HO4.out).2.1);rintro e w1 ⟨v3,rfl,ho0,hb⟩;refine ⟨_,rfl,?_⟩;have HO6:=am (Kd.R_lower (Kd.R_newM (M:=fun k_=>(w.heap.size≤k_)) ho0 (below_size (bf HB)) (fun k_ h_=>h_)) (below_size (bf HB)));replace HO2:=am (Kd.V_elder' (Vt_ HO2.out) (Kd.R_base ho0) hb);replace HO4:=am (Kd.V_elder' (Vt_ HO4.out) (Kd.R_base ho0) hb);replace HO5:=am (Kd.N_elder' (Nt_ HO5.out) (Kd.R_base ho0) hb);replace HB:=bs HB hb;(try clear hb);(try clear ho0)))
 go_roundg k1
 case measure=>have:=HK1.out;omega
 case rel=>exact ⟨(y0),(t1),H',⟨by have:=HK1.out;omega⟩,⟨Vt_ (Kd.V_mono HO2.out (fun _ hk=>And.intro hk.1.1 hk.1.2))⟩,⟨Nt_ (Kd.N_mono HO5.out (fun _ hk=>hk.1))⟩,⟨Kd.V_mono (Kd.R_V (Rt_ (Kd.R_mono (Kd.R_apart' HO6.out (Kd.N_typed HO5.out) (by decide)) (fun _ hk=>And.intro hk.1.1 hk.2)))) (fun k_ hk=>by first|exact ⟨(.inr (hk.1)),hk.2⟩|exact (.inr (hk)))⟩,⟨bf HB⟩⟩};{
 rw [if_neg c5] at H
 exact absurd H (by simp)}};{
 rw [if_neg c4] at H
 have c2:decide (t0≤0)=false:=decide_eq_false c4
 clear c4
 have H':=am H
 clear H
 obtain ⟨Ao0,co0,eo0⟩:=Kd.V_slice HO4.out
 subst eo0
 go_wp2_with (first|((with_reducible refine gc 33 rfl ?_);refine gm_ (some 11) rfl rfl Tryd.func33 (carrefourref01_Order.calls _ _ _ _ _ _ _ _ _ ?side1 ?side2 ?side3 ?side4 A3.out) ag ?_;(case side1=>repeat (first|exact (Kd.V_reads' HO4.out).2.2|(with_reducible refine Kd.C_alloc ?_ _)|(with_reducible refine Kd.C_drewN ?_ _)|(with_reducible refine Kd.C_drew ?_)));(case side2=>exact (Kd.V_reads' HO4.out).2.1);(case side3=>repeat (first|exact (Kd.V_reads' HO2.out).2.2|(with_reducible refine Kd.C_alloc ?_ _)|(with_reducible refine Kd.C_drewN ?_ _)|(with_reducible refine Kd.C_drew ?_)));(case side4=>exact (Kd.V_reads' HO2.out).2.1);intro w2 hb;replace HO2:=am (Kd.V_below (Vt_ HO2.out) hb);replace HO3:=am (Kd.N_below (Nt_ HO3.out) hb);replace HO4:=am (Kd.V_below (Vt_ HO4.out) hb);replace HB:=bs HB hb;(try clear hb);obtain ⟨Ao1,co1,eo1⟩:=Kd.N_slice HO3.out;subst eo1))
 go_loopg [0,7] k1 (fun kq v0 v7 w'=>∃ (x2:List Int) (x3:Int),v7=.int .i64 x3∧Aside0 (carrefourref02_rest.l1 kq x2 x0 x3=some r)∧Aside0 (kq≤k1)∧Aside0 (Kd.V (Kd.int .u64) 78 w' w.heap.size (fun k_=>((P0 k_∨P1 k_)∨w.heap.size≤k_)∧some k_≠((.slice Ao1 x0.length co1):Value).ownBlock) v0 x2)∧Aside0 (Kd.N (Kd.slice 78 (Kd.int .u64)) 75 w' w.heap.size (fun k_=>((P0 k_∨P1 k_)∨w.heap.size≤k_)) (.slice Ao1 x0.length co1) x0)∧Aside0 (Below w.heap.size w w'))
 case atStart=>exact ⟨(l0),(wrap64 ((x0.length:Int)-1)),(aq),H',⟨Nat.le_refl _⟩,⟨Vt_ HO2.out⟩,⟨Nt_ HO3.out⟩,⟨bf HB⟩⟩
 case round =>skip;{
 clear H'
 (try clear c1);(try clear p2);(try clear c3);(try clear c4);(try clear c2);(try clear c5);(try clear p6);(try clear p2)
 obtain ⟨x2,x3,rfl,HA,HK2,HO2,HO3,HB⟩:=hrel
 cases gk with
 | zero=>exact absurd HA.out (by simp [carrefourref02_rest.l1])
 | succ k2 =>skip;{
 have H:=HA.out
 clear HA
 simp only [carrefourref02_rest.l1] at H
 by_cases c6:x3≥0;{
 rw [if_pos c6] at H
 have c7:decide (0≤x3)=true:=decide_eq_true c6
 clear c6
 by_cases c8:0≤x3;{
 rw [if_pos c8] at H
 have c9:decide (0≤x3)=true:=decide_eq_true c8
 clear c8
 by_cases c16:x3<(x0.length:Int);{
 rw [if_pos c16] at H
 have c11:decide (x3<(x0.length:Int))=true:=decide_eq_true c16
 clear c16
 replace H:=bi_ H;obtain ⟨t2,A2,H⟩:=H
 (try dsimp only at H)
 by_cases c18:t2≤0;{
 rw [if_pos c18] at H
 have c13:decide (t2≤0)=true:=decide_eq_true c18
 clear c18
 replace H:=bi_ H;obtain ⟨t3,A4,H⟩:=H
 (try dsimp only at H)
 replace H:=bi_ H;obtain ⟨t4,A5,H⟩:=H
 (try dsimp only at H)
 have H':=am H
 clear H
 have p0:0≤(x3:Int):=od_
 have q0:x3<(x0.length:Int):=od_
 obtain ⟨ad0,A7,c17,e0,hx0,hl0,hi0⟩:=at_L20 (Kd.N_reads' HO3.out).2.2 x3 p0 q0
 cases e0
 obtain ⟨ce0,hce0,hMe0,hcc0⟩:=Kd.N_get HO3.out [] x3 p0 (by first|exact q0|exact od_|(have e_:=(Kd.N_reads' HO3.out).1;omega))
 obtain ⟨ua0,uc0,rfl,ul0,ge0⟩:=Kd.FK_slice_open hMe0
 have hv0:=hcc0 0 _ rfl
 rw [Nat.add_zero,show ((Kd.slice 78 (Kd.int .u64))).sz=1 from rfl,Nat.mul_one] at hv0
 replace hv0:=Option.some.inj (hv0.symm.trans hx0)
 injection hv0 with hva_ hvn_ hvc_
 rw [hva_] at ge0
 rw [hvc_] at ul0
 have HL0:=am (show Kd.V (Kd.int .u64) 78 _ w.heap.size _ _ (rd_L20 x0 x3) from Kd.V_mk ul0 ge0)
 clear hva_ hvn_ hvc_ ge0 ul0
 clear hcc0 hce0
 have HR0:=am hi0
 have HC0:=am hl0
 clear hi0 hl0
 replace p0:=eq_true p0
 replace q0:=eq_true q0
 obtain ⟨Ao2,co2,eo2⟩:=Kd.V_slice HO2.out
 subst eo2
 go_wp2_with (first|((with_reducible refine gc 33 rfl ?_);refine gm_ (some 31) rfl rfl Tryd.func33 (carrefourref01_Order.calls _ _ _ (rd_L20 x0 x3) _ _ _ _ _ ?side1 ?side2 ?side3 ?side4 A2.out) ag ?_;(case side1=>repeat (first|exact (by repeat (first|(with_reducible exact HR0.out)|(with_reducible refine Kd.C_alloc ?_ _)|(with_reducible refine Kd.C_drewN ?_ _)|(with_reducible refine Kd.C_drew ?_)|exact HR0.out))|(with_reducible refine Kd.C_alloc ?_ _)|(with_reducible refine Kd.C_drewN ?_ _)|(with_reducible refine Kd.C_drew ?_)));(case side2=>exact HC0.out);(case side3=>repeat (first|exact (Kd.V_reads' HO2.out).2.2|(with_reducible refine Kd.C_alloc ?_ _)|(with_reducible refine Kd.C_drewN ?_ _)|(with_reducible refine Kd.C_drew ?_)));(case side4=>exact (Kd.V_reads' HO2.out).2.1);intro w3 hb;replace HO2:=am (Kd.V_below (Vt_ HO2.out) hb);replace HO3:=am (Kd.N_below (Nt_ HO3.out) hb);replace HL0:=am (Kd.V_below (Vt_ HL0.out) hb);replace HR0:=am (Kd.C_below (by repeat (first|(with_reducible exact HR0.out)|(with_reducible refine Kd.C_alloc ?_ _)|(with_reducible refine Kd.C_drewN ?_ _)|(with_reducible refine Kd.C_drew ?_)|exact HR0.out)) hb);replace HB:=bs HB hb;(try clear hb);have p1:0≤(x3:Int):=od_;have q1:x3<(x0.length:Int):=od_;obtain ⟨ad1,A8,c19,e1,hx1,hl1,hi1⟩:=at_L20 (Kd.N_reads' HO3.out).2.2 x3 p1 q1;obtain rfl:ad0=ad1:=(by injection e1);obtain ⟨ce1,hce1,hMe1,hcc1⟩:=Kd.N_get HO3.out [] x3 p1 (by first|exact q1|exact od_|(have e_:=(Kd.N_reads' HO3.out).1;omega));obtain ⟨ua1,uc1,rfl,ul1,ge1⟩:=Kd.FK_slice_open hMe1;have hv1:=hcc1 0 _ rfl;rw [Nat.add_zero,show ((Kd.slice 78 (Kd.int .u64))).sz=1 from rfl,Nat.mul_one] at hv1;replace hv1:=Option.some.inj (hv1.symm.trans hx1);injection hv1 with hva_ hvn_ hvc_;rw [hva_] at ge1;rw [hvc_] at ul1;have HL1:=am (show Kd.V (Kd.int .u64) 78 _ w.heap.size _ _ (rd_L20 x0 x3) from Kd.V_mk ul1 ge1);clear hva_ hvn_ hvc_ ge1 ul1;clear hcc1 hce1;have HR1:=am hi1;have HC1:=am hl1;clear hi1 hl1;replace p1:=eq_true p1;replace q1:=eq_true q1)|((with_reducible refine gc 34 rfl ?_);refine gl_ (some 38) rfl rfl Tryd.func34 ((carrefourref01_Minus.calls _ _ _ _ _ _ (rd_L20 x0 x3) _ _ ?side1 ?side2 ?side3 ?side4 A4.out).mono ?_) ag;(case side1=>repeat (first|exact (Kd.V_reads' HO2.out).2.2|(with_reducible refine Kd.C_alloc ?_ _)|(with_reducible refine Kd.C_drewN ?_ _)|(with_reducible refine Kd.C_drew ?_)));(case side2=>exact (Kd.V_reads' HO2.out).2.1);(case side3=>repeat (first|exact (by repeat (first|(with_reducible exact HR1.out)|(with_reducible refine Kd.C_alloc ?_ _)|(with_reducible refine Kd.C_drewN ?_ _)|(with_reducible refine Kd.C_drew ?_)|exact HR1.out))|(with_reducible refine Kd.C_alloc ?_ _)|(with_reducible refine Kd.C_drewN ?_ _)|(with_reducible refine Kd.C_drew ?_)));(case side4=>exact HC1.out);rintro e w4 ⟨v4,rfl,ho0,hb⟩;refine ⟨_,rfl,?_⟩;have HO7:=am (Kd.R_lower (Kd.R_newM (M:=fun k_=>(w.heap.size≤k_)) ho0 (below_size (bf HB)) (fun k_ h_=>h_)) (below_size (bf HB)));replace HO2:=am (Kd.V_elder' (Vt_ HO2.out) (Kd.R_base ho0) hb);replace HO3:=am (Kd.N_elder' (Nt_ HO3.out) (Kd.R_base ho0) hb);replace HL0:=am (Kd.V_elder' (Vt_ HL0.out) (Kd.R_base ho0) hb);replace HL1:=am (Kd.V_elder' (Vt_ HL1.out) (Kd.R_base ho0) hb);replace HR0:=am (Kd.C_below (by repeat (first|(with_reducible exact HR0.out)|(with_reducible refine Kd.C_alloc ?_ _)|(with_reducible refine Kd.C_drewN ?_ _)|(with_reducible refine Kd.C_drew ?_)|exact HR0.out)) hb);replace HR1:=am (Kd.C_below (by repeat (first|(with_reducible exact HR1.out)|(with_reducible refine Kd.C_alloc ?_ _)|(with_reducible refine Kd.C_drewN ?_ _)|(with_reducible refine Kd.C_drew ?_)|exact HR1.out)) hb);replace HB:=bs HB hb;(try clear hb);(try clear ho0);obtain ⟨Ao3,co3,eo3⟩:=Kd.R_slice HO7.out;subst eo3)|((with_reducible refine gc 28 rfl ?_);refine gl_ (some 39) rfl rfl Tryd.func28 ((carrefourref02_trim.calls _ _ _ _ _ _ ?side1 ?side2 A5.out).mono ?_) ag;(case side1=>exact rc HO7);(case side2=>exact (Kd.R_reads' HO7.out).2.1);rintro e w5 ⟨v8,rfl,ho0,hb⟩;refine ⟨_,rfl,?_⟩;have HO8:=am (Kd.R_lower (Kd.R_new' (Kd.R_newM (M:=fun k_=>(w.heap.size≤k_)) ho0 (below_size (bf HB)) (fun k_ h_=>h_)) (rl HO7)) (below_size (bf HB)));replace HO2:=am (Kd.V_elder' (Vt_ HO2.out) (Kd.R_base ho0) hb);replace HO3:=am (Kd.N_elder' (Nt_ HO3.out) (Kd.R_base ho0) hb);replace HL0:=am (Kd.V_elder' (Vt_ HL0.out) (Kd.R_base ho0) hb);replace HL1:=am (Kd.V_elder' (Vt_ HL1.out) (Kd.R_base ho0) hb);replace HO7:=re_ HO7 (Kd.R_base ho0) hb;replace HR0:=am (Kd.C_below (by repeat (first|(with_reducible exact HR0.out)|(with_reducible refine Kd.C_alloc ?_ _)|(with_reducible refine Kd.C_drewN ?_ _)|(with_reducible refine Kd.C_drew ?_)|exact HR0.out)) hb);replace HR1:=am (Kd.C_below (by repeat (first|(with_reducible exact HR1.out)|(with_reducible refine Kd.C_alloc ?_ _)|(with_reducible refine Kd.C_drewN ?_ _)|(with_reducible refine Kd.C_drew ?_)|exact HR1.out)) hb);replace HB:=bs HB hb;(try clear hb);(try clear ho0)))
 go_roundg k2
 case measure=>have:=HK1.out;have:=HK2.out;omega
 case rel=>exact ⟨(t4),(wrap64 (x3-1)),(aq),H',⟨by have:=HK1.out;have:=HK2.out;omega⟩,⟨Kd.V_mono (Kd.R_V (Rt_ (Kd.R_mono (Kd.R_apart' HO8.out (Kd.N_typed HO3.out) (by decide)) (fun _ hk=>And.intro hk.1.1.1 hk.2)))) (fun k_ hk=>by first|exact ⟨(.inr (hk.1)),hk.2⟩|exact (.inr (hk)))⟩,⟨Nt_ (Kd.N_mono HO3.out (fun _ hk=>hk.1.1))⟩,⟨bf HB⟩⟩};{
 rw [if_neg c18] at H
 have c13:decide (t2≤0)=false:=decide_eq_false c18
 clear c18
 have H':=am H
 clear H
 have p0:0≤(x3:Int):=od_
 have q0:x3<(x0.length:Int):=od_
 obtain ⟨ad0,A7,c17,e0,hx0,hl0,hi0⟩:=at_L20 (Kd.N_reads' HO3.out).2.2 x3 p0 q0
 cases e0
 obtain ⟨ce0,hce0,hMe0,hcc0⟩:=Kd.N_get HO3.out [] x3 p0 (by first|exact q0|exact od_|(have e_:=(Kd.N_reads' HO3.out).1;omega))
 obtain ⟨ua0,uc0,rfl,ul0,ge0⟩:=Kd.FK_slice_open hMe0
 have hv0:=hcc0 0 _ rfl
 rw [Nat.add_zero,show ((Kd.slice 78 (Kd.int .u64))).sz=1 from rfl,Nat.mul_one] at hv0
 replace hv0:=Option.some.inj (hv0.symm.trans hx0)
 injection hv0 with hva_ hvn_ hvc_
 rw [hva_] at ge0
 rw [hvc_] at ul0
 have HL0:=am (show Kd.V (Kd.int .u64) 78 _ w.heap.size _ _ (rd_L20 x0 x3) from Kd.V_mk ul0 ge0)
 clear hva_ hvn_ hvc_ ge0 ul0
 clear hcc0 hce0
 have HR0:=am hi0
 have HC0:=am hl0
 clear hi0 hl0
 replace p0:=eq_true p0
 replace q0:=eq_true q0
 obtain ⟨Ao4,co4,eo4⟩:=Kd.V_slice HO2.out
 subst eo4
 go_wp2_with (first|((with_reducible refine gc 33 rfl ?_);refine gm_ (some 31) rfl rfl Tryd.func33 (carrefourref01_Order.calls _ _ _ (rd_L20 x0 x3) _ _ _ _ _ ?side1 ?side2 ?side3 ?side4 A2.out) ag ?_;(case side1=>repeat (first|exact (by repeat (first|(with_reducible exact HR0.out)|(with_reducible refine Kd.C_alloc ?_ _)|(with_reducible refine Kd.C_drewN ?_ _)|(with_reducible refine Kd.C_drew ?_)|exact HR0.out))|(with_reducible refine Kd.C_alloc ?_ _)|(with_reducible refine Kd.C_drewN ?_ _)|(with_reducible refine Kd.C_drew ?_)));(case side2=>exact HC0.out);(case side3=>repeat (first|exact (Kd.V_reads' HO2.out).2.2|(with_reducible refine Kd.C_alloc ?_ _)|(with_reducible refine Kd.C_drewN ?_ _)|(with_reducible refine Kd.C_drew ?_)));(case side4=>exact (Kd.V_reads' HO2.out).2.1);intro w6 hb;replace HO2:=am (Kd.V_below (Vt_ HO2.out) hb);replace HO3:=am (Kd.N_below (Nt_ HO3.out) hb);replace HL0:=am (Kd.V_below (Vt_ HL0.out) hb);replace HR0:=am (Kd.C_below (by repeat (first|(with_reducible exact HR0.out)|(with_reducible refine Kd.C_alloc ?_ _)|(with_reducible refine Kd.C_drewN ?_ _)|(with_reducible refine Kd.C_drew ?_)|exact HR0.out)) hb);replace HB:=bs HB hb;(try clear hb)))
 go_roundg k2
 case measure=>have:=HK1.out;have:=HK2.out;omega
 case rel=>exact ⟨(x2),(wrap64 (x3-1)),(aq),H',⟨by have:=HK1.out;have:=HK2.out;omega⟩,⟨Vt_ HO2.out⟩,⟨Nt_ HO3.out⟩,⟨bf HB⟩⟩}};{
 rw [if_neg c16] at H
 exact absurd H (by simp)}};{
 rw [if_neg c8] at H
 exact absurd H (by simp)}};{
 rw [if_neg c6] at H
 have c7:decide (0≤x3)=false:=decide_eq_false c6
 clear c6
 obtain rfl:=Option.some.inj H
 go_wp2
 go_ret
 exact ⟨_,ae,by (with_reducible repeat (first|apply Kd.V_alloc|apply Kd.V_drewN|apply Kd.V_drew));exact Kd.V_mono HO2.out (fun _ hk=>hk.1),bf HB⟩}}}}}}
end Go.Proofs.YtenphnkiacfmiaaDoor.X
