/- Walks: each '.calls' says that the Go function comes to what its Lean function tells. Conditions: as each theorem's head says. -/
import Derived.Test.YtenphnkiacfmiaaDoorXD
import Derived.Test.YtenphnkiacfmiaaDoorX0
namespace Go.Proofs.YtenphnkiacfmiaaDoor.X
open Go.RowKit Go.Proofs.YtenphnkiacfmiaaDoorW.PrintWords Go.Proofs.YtenphnkiacfmiaaDoorW.PrintLast Go.Proofs.YtenphnkiacfmiaaDoorW.PrintMore
attribute [local go_sem] max2_int min2_int max_two min_two max_three min_three max_four min_four
set_option linter.unusedVariables false
set_option maxHeartbeats 8000000
set_option maxRecDepth 100000
set_option linter.unusedSimpArgs false
theorem carrefourlaw11_ways.calls (k:Nat):∀ (a0:ByteArray) (A0:Option Addr) (c0:Nat) (l2:List (S96)) (A1:Option Addr) (c2:Nat) (l3:List (S98)) (A2:Option Addr) (c5:Nat) (l4:List (S61)) (A3:Option Addr) (c6:Nat) (l5:List (S33)) (A4:Option Addr) (c7:Nat) (l6:List (S100)) (a2:Int) (a1:Int) (r:List (List Int)) (w:World) (hr0:Kd.C k96 w A0 l2.length l2) (hc0:l2.length≤c0) (hr1:Kd.C k98 w A1 l3.length l3) (hc1:l3.length≤c2) (hr2:Kd.C k61 w A2 l4.length l4) (hc2:l4.length≤c5) (hr3:Kd.C k33 w A3 l5.length l5) (hc3:l5.length≤c6) (hr4:Kd.C k100 w A4 l6.length l6) (hc4:l6.length≤c7) (h:carrefourlaw11_ways.f k a0 l2 l3 l4 l5 l6 a2 a1=some r),
  Calls Tryd.prog 8 #[.agg #[.string a0,.slice A0 l2.length c0,.slice A1 l3.length c2,.slice A2 l4.length c5,.slice A3 l5.length c6,.slice A4 l6.length c7,.int .i64 a2],.int .i64 a1] w fun e w'=>∃ v0:Value,e=.returned (v0)∧Kd.N (Kd.slice 3 (Kd.int .i64)) 37 w' w.heap.size (fun k_=>(w.heap.size≤k_)) v0 r∧Below w.heap.size w w':=by
 induction k using Nat.strongRecOn with
 | _ k ih =>
 intro a0 A0 c0 l2 A1 c2 l3 A2 c5 l4 A3 c6 l5 A4 c7 l6 a2 a1 r w hr0 hc0 hr1 hc1 hr2 hc2 hr3 hc3 hr4 hc4 h
 cases k with
 | zero=>exact absurd h (by simp [carrefourlaw11_ways.f])
 | succ k =>
 simp only [carrefourlaw11_ways.f] at h
 have hu0:=Tryd.underlying28
 have HR0:=am hr0
 have HC0:=am hc0
 clear hr0 hc0
 have HR1:=am hr1
 have HC1:=am hc1
 clear hr1 hc1
 have HR2:=am hr2
 have HC2:=am hc2
 clear hr2 hc2
 have HR3:=am hr3
 have HC3:=am hc3
 clear hr3 hc3
 have HR4:=am hr4
 have HC4:=am hc4
 clear hr4 hc4
 have HB:=am (Below.refl w.heap.size w)
 have H:(if a1≥(l5.length:Int) then (some (([(([]:List Int))]:List (List Int)))) else ((carrefourlaw11_ways.f k a0 l2 l3 l4 l5 l6 a2 (wrap64 (a1+1))).bind fun t0=>(carrefourlaw11_ways.l0 k a1 t0 ([]:List (List Int)) 0 a0 l2 l3 l4 l5 l6 a2)))=some r:=h
 clear h
 by_cases c3:a1≥(l5.length:Int);{
 rw [if_pos c3] at H
 have c9:decide ((l5.length:Int)≤a1)=true:=decide_eq_true c3
 clear c3
 obtain ⟨y0,hy0⟩:∃ y_:List Int,y_=(([]:List Int)):=⟨_,rfl⟩
 replace H:(some (([y0]:List (List Int))))=some r:=by first|(rw [hy0];with_reducible exact H)|(have H0:=(Option.bind_some _ _).symm.trans H;rw [hy0];with_reducible exact H0)|(have H0:=(Option.bind_some _ _).symm.trans H;with_reducible exact H0)|with_reducible exact H|(rw [hy0];exact H)|exact H
 have Ny0:=am hy0
 clear hy0
 obtain ⟨y1,hy1⟩:∃ y_:List (List Int),y_=(([y0]:List (List Int))):=⟨_,rfl⟩
 replace H:(some y1)=some r:=by first|(rw [hy1];with_reducible exact H)|(have H0:=(Option.bind_some _ _).symm.trans H;rw [hy1];with_reducible exact H0)|(have H0:=(Option.bind_some _ _).symm.trans H;with_reducible exact H0)|with_reducible exact H|(rw [hy1];exact H)|exact H
 have Ny1:=am hy1
 clear hy1
 obtain rfl:=Option.some.inj H
 go_enter Tryd.func8,Tryd.ntmps8
 go_wp2_with (first|((with_reducible refine gate_dst (N:=2) rfl ?_);(try (refine gate_guard (by rfl) ?_;dsimp only));refine box_event ?hg (N:=2) ?hd (cs:=#[.string a0,.slice A0 l2.length c0,.slice A1 l3.length c2,.slice A2 l4.length c5,.slice A3 l5.length c6,.slice A4 l6.length c7,.int .i64 a2]) (t:=28) ?hr ?_;(case hd=>rfl);(case hg=>rfl);(case hr=>first|(go_simp;done)|(go_simp;rfl));intro gb0 hg w4 hbox hb;have BK0:=am (hbox);have GE0:=bz HB hg;replace HB:=bs HB hb;clear hb hg;have hcz5:=X.k7 BK0)|((with_reducible refine gate_dst (N:=14) rfl ?_);(try (refine gate_guard (by rfl) ?_;dsimp only));refine Kd.R_lit (Kd.int .i64) _ 3 ?hg (N:=14) ?hd (xs:=([]:List Int)) (inner:=[]) (ok:=fun _=>True) (okp:=fun _=>True) ?hr ?hp (fun _ hk=>hk) trivial (Below.refl _ _) (Nat.le_refl _) (by simp) ?_;(case hd=>rfl);(case hg=>rfl);(case hr=>first|(go_simp;done)|(go_simp;rfl));(case hp=>exact (Reps.none _ _));intro v1 w6 ho7 hb hg_ hnew_;clear hg_ hnew_;(first|rw [← Ny0.out] at ho7|(simp only [Int.reduceToNat] at ho7;rw [← Ny0.out] at ho7));have HO0:=am (Kd.R_lower (Kd.R_newM (M:=fun k_=>(w.heap.size≤k_)) ho7 (below_size (bf HB)) (fun k_ h_=>h_)) (below_size (bf HB)));replace BK0:=bb BK0 hb;replace HB:=bs HB hb;clear hb ho7;obtain ⟨Ao8,co8,eo8⟩:=Kd.R_slice HO0.out;subst eo8)|((with_reducible refine gate_dst (N:=15) rfl ?_);(try (refine gate_guard (by rfl) ?_;dsimp only));refine Kd.N_lit (Kd.slice 3 (Kd.int .i64)) _ 37 ?hg (N':=15) ?hd (xs:=([y0]:List (List Int))) (inner:=[.slice Ao8 y0.length co8]) (ok:=(fun k_=>(w.heap.size≤k_)∧k_≠gb0)) (okp:=(fun k_=>(w.heap.size≤k_)∧k_≠gb0)) ?hr ?hp (fun _ hk=>hk) ((show ∀ k_,w6.heap.size≤k_→(fun k_=>(w.heap.size≤k_)∧k_≠gb0) k_ from fun k_ hk=>⟨(Nat.le_trans (below_size (bf HB)) hk),Kd.freshB (g:=gb0) (o:=.cells #[.string a0,.slice A0 l2.length c0,.slice A1 l3.length c2,.slice A2 l4.length c5,.slice A3 l5.length c6,.slice A4 l6.length c7,.int .i64 a2] 28 (0,0)) (bx BK0) k_ hk⟩) _ (Nat.le_refl _)) (Below.refl _ _) (Nat.le_refl _) (by simp) ?_;(case hd=>rfl);(case hg=>rfl);(case hr=>first|(go_simp;done)|(go_simp;rfl));(case hp=>exact (Reps.one (show Kd.FK (Kd.slice 3 (Kd.int .i64)) _ _ y0 [.slice Ao8 y0.length co8] from (Kd.FK_slice_mk (Kd.R_reads' (Kd.R_mono (ok':=(fun k_=>(w.heap.size≤k_)∧k_≠gb0)) (Kd.R_types (HO0.out) BK0.out (by decide)) (fun k_ hk=>⟨hk.1.1,hk.2⟩))).2.1 (Kd.R_F (Kd.R_mono (ok':=(fun k_=>(w.heap.size≤k_)∧k_≠gb0)) (Kd.R_types (HO0.out) BK0.out (by decide)) (fun k_ hk=>⟨hk.1.1,hk.2⟩))))) (Reps.none _ _)));intro v2 w9 ho1 hb hg_ hnew_;clear hg_ hnew_;(first|rw [← Ny1.out] at ho1|(simp only [Int.reduceToNat] at ho1;rw [← Ny1.out] at ho1));have n0:=am (Kd.N_lower ho1 (below_size (bf HB)));have n1:=bb BK0 hb;have n2:=bs HB hb;clear BK0;clear HB;clear HO0;have HO1:=n0;have BK0:=n1;have HB:=n2;clear n0 n1 n2;clear hb ho1))
 go_ret
 exact ⟨_,ae,by (with_reducible repeat (first|apply Kd.N_alloc|apply Kd.N_drewN|apply Kd.N_drew));exact Kd.N_mono HO1.out (fun _ hk=>hk.1),bf HB⟩};{
 rw [if_neg c3] at H
 have c9:decide ((l5.length:Int)≤a1)=false:=decide_eq_false c3
 clear c3
 replace H:=bi_ H;obtain ⟨t0,A5,H⟩:=H
 (try dsimp only at H)
 have H':=am H
 clear H
 go_enter Tryd.func8,Tryd.ntmps8
 go_wp2_with (first|((with_reducible refine gate_dst (N:=2) rfl ?_);(try (refine gate_guard (by rfl) ?_;dsimp only));refine box_event ?hg (N:=2) ?hd (cs:=#[.string a0,.slice A0 l2.length c0,.slice A1 l3.length c2,.slice A2 l4.length c5,.slice A3 l5.length c6,.slice A4 l6.length c7,.int .i64 a2]) (t:=28) ?hr ?_;(case hd=>rfl);(case hg=>rfl);(case hr=>first|(go_simp;done)|(go_simp;rfl));intro gb0 hg w1 hbox hb;have BK0:=am (hbox);have GE0:=bz HB hg;replace HB:=bs HB hb;clear hb hg;have hcz0:=X.k7 BK0)|((with_reducible refine gate_callee (f:=8) rfl ?_);refine goesL_ (some 19) rfl rfl Tryd.func8 (by kernel_rfl) rfl #[.agg #[.string a0,.slice A0 l2.length c0,.slice A1 l3.length c2,.slice A2 l4.length c5,.slice A3 l5.length c6,.slice A4 l6.length c7,.int .i64 a2],.int .i64 (wrap64 (a1+1))] rfl ag ?_;(with_reducible refine (ih k (by omega) a0 _ _ l2 _ _ l3 _ _ l4 _ _ l5 _ _ l6 a2 (wrap64 (a1+1)) t0 _ ?side1 ?side2 ?side3 ?side4 ?side5 ?side6 ?side7 ?side8 ?side9 ?side10 A5.out).mono ?_);(case side1=>repeat (first|exact (Kd.C_below HR0.out HB.out)|(with_reducible refine Kd.C_alloc ?_ _)|(with_reducible refine Kd.C_drewN ?_ _)|(with_reducible refine Kd.C_drew ?_)));(case side2=>exact HC0.out);(case side3=>repeat (first|exact (Kd.C_below HR1.out HB.out)|(with_reducible refine Kd.C_alloc ?_ _)|(with_reducible refine Kd.C_drewN ?_ _)|(with_reducible refine Kd.C_drew ?_)));(case side4=>exact HC1.out);(case side5=>repeat (first|exact (Kd.C_below HR2.out HB.out)|(with_reducible refine Kd.C_alloc ?_ _)|(with_reducible refine Kd.C_drewN ?_ _)|(with_reducible refine Kd.C_drew ?_)));(case side6=>exact HC2.out);(case side7=>repeat (first|exact (Kd.C_below HR3.out HB.out)|(with_reducible refine Kd.C_alloc ?_ _)|(with_reducible refine Kd.C_drewN ?_ _)|(with_reducible refine Kd.C_drew ?_)));(case side8=>exact HC3.out);(case side9=>repeat (first|exact (Kd.C_below HR4.out HB.out)|(with_reducible refine Kd.C_alloc ?_ _)|(with_reducible refine Kd.C_drewN ?_ _)|(with_reducible refine Kd.C_drew ?_)));(case side10=>exact HC4.out);rintro e w2 ⟨v3,rfl,ho0,hb⟩;refine ⟨_,rfl,?_⟩;have HO2:=am (Kd.N_lower (Kd.N_mono (ok':=fun k_=>(w.heap.size≤k_)∧k_≠gb0) ho0 (fun k_ hk_=>⟨(Nat.le_trans (below_size (bf HB)) hk_),(Kd.freshB (g:=gb0) (o:=.cells #[.string a0,.slice A0 l2.length c0,.slice A1 l3.length c2,.slice A2 l4.length c5,.slice A3 l5.length c6,.slice A4 l6.length c7,.int .i64 a2] 28 (0,0)) (bx BK0) k_ hk_)⟩)) (below_size (bf HB)));replace BK0:=bb BK0 hb;replace HB:=bs HB hb;(try clear hb);(try clear ho0)))
 go_loopg [6,7] k (fun kq v6 v7 w'=>∃ (x0:List (List Int)) (x1:Int),v7=.int .i64 x1∧Aside0 (carrefourlaw11_ways.l0 kq a1 t0 x0 x1 a0 l2 l3 l4 l5 l6 a2=some r)∧Aside0 (kq≤k)∧Aside0 (Kd.N (Kd.slice 3 (Kd.int .i64)) 37 w' w.heap.size (fun k_=>(w.heap.size≤k_)∧some k_≠(v6:Value).ownBlock∧k_≠gb0) v3 t0)∧Aside0 (Kd.N (Kd.slice 3 (Kd.int .i64)) 37 w' w.heap.size (fun k_=>(w.heap.size≤k_)∧some k_≠(v3:Value).ownBlock∧k_≠gb0) v6 x0)∧Aside0 (w'.heap[gb0]?=some (.cells #[.string a0,(.slice A0 l2.length c0),(.slice A1 l3.length c2),(.slice A2 l4.length c5),(.slice A3 l5.length c6),(.slice A4 l6.length c7),.int .i64 a2] 28 (0,0)))∧Aside0 (Below w.heap.size w w'))
 case atStart=>exact ⟨(([]:List (List Int))),(0),(aq),H',⟨Nat.le_refl _⟩,⟨Nt_ (Kd.N_mono HO2.out (fun _ hk=>⟨hk.1,⟨(by simp [Value.ownBlock]),hk.2⟩⟩))⟩,⟨by first|exact Kd.S_nil _ _ _ _ _|exact Kd.N_nil _ _ _ _ _|exact Kd.V_nil _ _ _ _ _|exact Kd.Q_nil _ _ _ _ _|exact Kd.R_nil _ _ _ _ _⟩,bu_ BK0,⟨bf HB⟩⟩
 case round =>skip;{
 clear H'
 (try clear p2);(try clear c3);(try clear c9);(try clear p6);(try clear c8);(try clear hcz0);(try clear hcz5)
 obtain ⟨x0,x1,rfl,HA,HK1,HO3,HO4,BK0,HB⟩:=hrel
 cases gk with
 | zero=>exact absurd HA.out (by simp [carrefourlaw11_ways.l0])
 | succ k1 =>skip;{
 have H:=HA.out
 clear HA
 simp only [carrefourlaw11_ways.l0] at H
 by_cases c15:0≤a1;{
 rw [if_pos c15] at H
 have c11:decide (0≤a1)=true:=decide_eq_true c15
 clear c15
 by_cases c16:a1<(l5.length:Int);{
 rw [if_pos c16] at H
 have c13:decide (a1<(l5.length:Int))=true:=decide_eq_true c16
 clear c16
 by_cases c17:x1<(((rd_T33 l5 a1).f0).length:Int);{
 rw [if_pos c17] at H
 have c18:decide (x1<(((rd_T33 l5 a1).f0).length:Int))=true:=decide_eq_true c17
 clear c17
 have H':=am H
 clear H
 have hcz1:=X.k7 BK0
 have p0:0≤(a1:Int):=od_
 have q0:a1<(l5.length:Int):=od_
 obtain ⟨ad0,A6,c24,e0,hx0,hl0,hi0⟩:=at_T33 HR3.out a1 p0 q0
 cases e0
 replace hx0:=hx_ HB hx0
 have HR5:=am hi0
 have HC5:=am hl0
 clear hi0 hl0
 replace p0:=eq_true p0
 replace q0:=eq_true q0
 go_wp2
 go_loopg [6,8] k1 (fun kq v6 v8 w'=>∃ (x2:List (List Int)) (x3:Int),v8=.int .i64 x3∧Aside0 (carrefourlaw11_ways.l1 kq a1 t0 x2 x1 x3 a0 l2 l3 l4 l5 l6 a2=some r)∧Aside0 (kq≤k1)∧Aside0 (Kd.N (Kd.slice 3 (Kd.int .i64)) 37 w' w.heap.size (fun k_=>(w.heap.size≤k_)∧some k_≠(v6:Value).ownBlock∧k_≠gb0) v3 t0)∧Aside0 (Kd.N (Kd.slice 3 (Kd.int .i64)) 37 w' w.heap.size (fun k_=>(w.heap.size≤k_)∧some k_≠(v3:Value).ownBlock∧k_≠gb0) v6 x2)∧Aside0 (w'.heap[gb0]?=some (.cells #[.string a0,(.slice A0 l2.length c0),(.slice A1 l3.length c2),(.slice A2 l4.length c5),(.slice (some ad0) l5.length c6),(.slice A4 l6.length c7),.int .i64 a2] 28 (0,0)))∧Aside0 (Below w.heap.size w w'))
 case atStart=>exact ⟨(x0),(0),(aq),H',⟨Nat.le_refl _⟩,⟨Nt_ HO3.out⟩,⟨Nt_ HO4.out⟩,bu_ BK0,⟨bf HB⟩⟩
 case round =>skip;{
 clear H'
 (try clear c1);(try clear p2);(try clear c3);(try clear c9);(try clear c4);(try clear p4);(try clear q4);(try clear hx4);(try clear p6);(try clear c8);(try clear c15);(try clear c11);(try clear c16);(try clear c13);(try clear c17);(try clear c18);(try clear hcz0);(try clear hcz1);(try clear hcz5);(try clear hx0);(try clear p2);(try clear p0);(try clear p6);(try clear q0)
 obtain ⟨x2,x3,rfl,HA,HK2,HO3,HO4,BK0,HB⟩:=hrel
 cases gk with
 | zero=>exact absurd HA.out (by simp [carrefourlaw11_ways.l1])
 | succ k2 =>skip;{
 have H:=HA.out
 clear HA
 simp only [carrefourlaw11_ways.l1] at H
 by_cases c19:x3<(t0.length:Int);{
 rw [if_pos c19] at H
 have c26:decide (x3<(t0.length:Int))=true:=decide_eq_true c19
 clear c19
 by_cases c20:(x2.length:Int)<100;{
 rw [if_pos c20] at H
 have c28:decide ((x2.length:Int)<100)=true:=decide_eq_true c20
 have c29:decide (x2.length<100)=true:=decide_eq_true (by omega)
 clear c20
 obtain ⟨y2,hy2⟩:∃ y_:List Int,y_=(([x1]:List Int)):=⟨_,rfl⟩
 replace H:(if 0≤x3 then (if y2.length+(rd_L19 t0 x3).length<17592186044416 then (if x2.length<5864062014805 then (carrefourlaw11_ways.l1 k2 a1 t0 (x2++[(y2++(rd_L19 t0 x3))]) x1 (wrap64 (x3+1)) a0 l2 l3 l4 l5 l6 a2) else (none)) else (none)) else (none))=some r:=by first|(rw [hy2];with_reducible exact H)|(have H0:=(Option.bind_some _ _).symm.trans H;rw [hy2];with_reducible exact H0)|(have H0:=(Option.bind_some _ _).symm.trans H;with_reducible exact H0)|with_reducible exact H|(rw [hy2];exact H)|exact H
 have Ny2:=am hy2
 clear hy2
 by_cases c21:0≤x3;{
 rw [if_pos c21] at H
 have c31:decide (0≤x3)=true:=decide_eq_true c21
 clear c21
 by_cases c22:y2.length+(rd_L19 t0 x3).length<17592186044416;{
 rw [if_pos c22] at H
 have LMc0:=am c22
 clear c22
 obtain ⟨y3,hy3⟩:∃ y_:List Int,y_=(y2++(rd_L19 t0 x3)):=⟨_,rfl⟩
 replace H:(if x2.length<5864062014805 then (carrefourlaw11_ways.l1 k2 a1 t0 (x2++[y3]) x1 (wrap64 (x3+1)) a0 l2 l3 l4 l5 l6 a2) else (none))=some r:=by first|(rw [hy3];with_reducible exact H)|(have H0:=(Option.bind_some _ _).symm.trans H;rw [hy3];with_reducible exact H0)|(have H0:=(Option.bind_some _ _).symm.trans H;with_reducible exact H0)|with_reducible exact H|(rw [hy3];exact H)|exact H
 have Ny3:=am hy3
 clear hy3
 by_cases c23:x2.length<5864062014805;{
 rw [if_pos c23] at H
 have LMc1:=am c23
 clear c23
 obtain ⟨y4,hy4⟩:∃ y_:List (List Int),y_=(x2++[y3]):=⟨_,rfl⟩
 replace H:(carrefourlaw11_ways.l1 k2 a1 t0 y4 x1 (wrap64 (x3+1)) a0 l2 l3 l4 l5 l6 a2)=some r:=by first|(rw [hy4];with_reducible exact H)|(have H0:=(Option.bind_some _ _).symm.trans H;rw [hy4];with_reducible exact H0)|(have H0:=(Option.bind_some _ _).symm.trans H;with_reducible exact H0)|with_reducible exact H|(rw [hy4];exact H)|exact H
 have Ny4:=am hy4
 clear hy4
 have H':=am H
 clear H
 obtain ⟨Ao0,co0,eo0⟩:=Kd.N_slice HO3.out
 subst eo0
 obtain ⟨Ao1,co1,eo1⟩:=Kd.N_slice HO4.out
 subst eo1
 go_wp2_with (first|((with_reducible refine gate_dst (N:=44) rfl ?_);(try (refine gate_guard (by rfl) ?_;dsimp only));refine Kd.R_lit (Kd.int .i64) _ 3 ?hg (N:=44) ?hd (xs:=([x1]:List Int)) (inner:=[.int .i64 x1]) (ok:=fun _=>True) (okp:=fun _=>True) ?hr ?hp (fun _ hk=>hk) trivial (Below.refl _ _) (Nat.le_refl _) (by simp) ?_;(case hd=>rfl);(case hg=>rfl);(case hr=>first|(go_simp;done)|(go_simp;rfl));(case hp=>exact (Reps.one (show Kd.M (Kd.int .i64) _ _ _ x1 [.int .i64 x1] from rfl) (Reps.none _ _)));intro v4 w3 ho2 hb hg_ hnew_;clear hg_ hnew_;(first|rw [← Ny2.out] at ho2|(simp only [Int.reduceToNat] at ho2;rw [← Ny2.out] at ho2));have HO5:=am (Kd.R_lower (Kd.R_newM (M:=fun k_=>(w.heap.size≤k_)) ho2 (below_size (bf HB)) (fun k_ h_=>h_)) (below_size (bf HB)));replace HO3:=am (Kd.N_elder' (Nt_ HO3.out) (Kd.R_base ho2) hb);replace HO4:=am (Kd.N_elder' (Nt_ HO4.out) (Kd.R_base ho2) hb);replace BK0:=bb BK0 hb;replace HB:=bs HB hb;clear hb ho2;have p1:0≤(x3:Int):=od_;have q1:x3<(t0.length:Int):=od_;obtain ⟨ad1,A7,c34,e1,hx1,hl1,hi1⟩:=at_L19 (Kd.N_reads' HO3.out).2.2 x3 p1 q1;cases e1;obtain ⟨ce0,hce0,hMe0,hcc0⟩:=Kd.N_get HO3.out [] x3 p1 (by first|exact q1|exact od_|(have e_:=(Kd.N_reads' HO3.out).1;omega));obtain ⟨ua0,uc0,rfl,ul0,ge0⟩:=Kd.FK_slice_open hMe0;have hv0:=hcc0 0 _ rfl;rw [Nat.add_zero,show ((Kd.slice 3 (Kd.int .i64))).sz=1 from rfl,Nat.mul_one] at hv0;replace hv0:=Option.some.inj (hv0.symm.trans hx1);injection hv0 with hva_ hvn_ hvc_;rw [hva_] at ge0;rw [hvc_] at ul0;have HL0:=am (show Kd.V (Kd.int .i64) 3 _ w.heap.size _ _ (rd_L19 t0 x3) from Kd.V_mk ul0 ge0);clear hva_ hvn_ hvc_ ge0 ul0;clear hcc0 hce0;have HR6:=am hi1;have HC6:=am hl1;clear hi1 hl1;replace p1:=eq_true p1;replace q1:=eq_true q1)|((with_reducible refine gate_builtin (b:=.append) (xs:=#[.tmp 44,.tmp 48]) rfl ?_);(try (refine gate_guard (by rfl) ?_;dsimp only));at_builtin;refine Kd.R_append_rows (Kd.int .i64) (w0:=w) w.heap.size rfl (.tmp 44) (.tmp 48) 37 3 (.int .i64 0) 8 rfl Tryd.underlying37 info3 rfl (by decide) (by omega) v4 y2 (rd_L19 t0 x3) _ _ _ (fun k_=>(w.heap.size≤k_)) (fun _=>False) rfl rfl ?aO ?aR (fun _ _ h=>h) (fun _ h=>h.elim) ?aF ?aB ?aS ?aL ?_;(case aR=>repeat (first|exact (by repeat (first|(with_reducible exact HR6.out)|(with_reducible refine Kd.C_alloc ?_ _)|(with_reducible refine Kd.C_drewN ?_ _)|(with_reducible refine Kd.C_drew ?_)|exact HR6.out))|(with_reducible refine Kd.C_alloc ?_ _)|(with_reducible refine Kd.C_drewN ?_ _)|(with_reducible refine Kd.C_drew ?_)));(case aB=>exact (bf HB));(case aF=>exact (fun k_ hk=>(Nat.le_trans (below_size (bf HB)) hk)));(case aO=>exact (Rt_ (Kd.R_mono HO5.out (fun _ hk=>hk.1))));(case aS=>exact (below_size (bf HB)));(case aL=>have:=LMc0.out;omega);intro v5 w5 ho hb hg hat;rw [← Ny3.out] at ho;have n0:=am (Kd.N_afterv (ok:=(fun k_=>(w.heap.size≤k_)∧some k_≠(.slice Ao1 x2.length co1:Value).ownBlock∧k_≠gb0)) (Nt_ HO3.out) hg hat);have n1:=am (Kd.N_afterv (ok:=(fun k_=>(w.heap.size≤k_)∧some k_≠(.slice (some ad1) t0.length co0:Value).ownBlock∧k_≠gb0)) (Nt_ HO4.out) hg hat);have n2:=am (blk_grown (g:=gb0) (o:=.cells #[.string a0,.slice A0 l2.length c0,.slice A1 l3.length c2,.slice A2 l4.length c5,.slice (some ad0) l5.length c6,.slice A4 l6.length c7,.int .i64 a2] 28 (0,0)) (bx BK0) hg (Kd.R_ne HO5.out BK0.out (by decide)));have n3:=am (Kd.V_afterv (ok:=(fun k_=>(w.heap.size≤k_)∧some k_≠(.slice (some ad1) t0.length co0:Value).ownBlock∧some k_≠(.slice Ao1 x2.length co1:Value).ownBlock∧k_≠gb0)) (Vt_ (Kd.V_mono HL0.out (fun _ hk=>⟨⟨hk.1.1.1,⟨hk.2,⟨hk.1.1.2.1,hk.1.1.2.2⟩⟩⟩,hk.1.2⟩))) hg hat);have n4:=am (hb);have n5:=am (ho);clear HO3;clear HO4;clear BK0;clear HL0;clear HB;clear HO5;have HO3:=n0;have HO4:=n1;have BK0:=n2;have HL0:=n3;have HB:=n4;have HO6:=n5;clear n0 n1 n2 n3 n4 n5;clear ho hb hg hat;obtain ⟨Ao2,co2,eo2⟩:=Kd.R_slice HO6.out;subst eo2)|((with_reducible refine gate_builtin (b:=.append) (xs:=#[.tmp 42,.tmp 50]) rfl ?_);(try (refine gate_guard (by rfl) ?_;dsimp only));at_builtin;refine Kd.N_append (Kd.slice 3 (Kd.int .i64)) (w0:=w) w.heap.size rfl (.tmp 42) (.tmp 50) 43 37 (.slice none 0 0) 24 rfl Tryd.underlying43 info37 rfl (by decide) (by omega) (.slice Ao1 x2.length co1) x2 y3 [.slice Ao2 y3.length co2] (fun k_=>(w.heap.size≤k_)∧some k_≠(.slice (some ad1) t0.length co0:Value).ownBlock∧k_≠gb0) (fun k_=>((fun k_=>(w.heap.size≤k_)∧some k_≠(.slice (some ad1) t0.length co0:Value).ownBlock∧k_≠gb0)) k_∧some k_≠(.slice Ao1 x2.length co1:Value).ownBlock) rfl rfl ?aP (fun _ hk=>hk) ?aF ?aO ?aB ?aS ?aL ?_;(case aP=>exact (Kd.FK_slice_mk (Kd.R_reads' (Kd.R_mono (ok':=(fun k_=>((fun k_=>(w.heap.size≤k_)∧some k_≠(.slice (some ad1) t0.length co0:Value).ownBlock∧k_≠gb0)) k_∧some k_≠(.slice Ao1 x2.length co1:Value).ownBlock)) (Kd.R_types (Kd.R_apart' (Kd.R_apart' (HO6.out) (Kd.N_typed HO3.out) (by decide)) (Kd.N_typed HO4.out) (by decide)) BK0.out (by decide)) (fun k_ hk=>⟨⟨hk.1.1.1,⟨hk.1.1.2,hk.2⟩⟩,hk.1.2⟩))).2.1 (Kd.R_F (Kd.R_mono (ok':=(fun k_=>((fun k_=>(w.heap.size≤k_)∧some k_≠(.slice (some ad1) t0.length co0:Value).ownBlock∧k_≠gb0)) k_∧some k_≠(.slice Ao1 x2.length co1:Value).ownBlock)) (Kd.R_types (Kd.R_apart' (Kd.R_apart' (HO6.out) (Kd.N_typed HO3.out) (by decide)) (Kd.N_typed HO4.out) (by decide)) BK0.out (by decide)) (fun k_ hk=>⟨⟨hk.1.1.1,⟨hk.1.1.2,hk.2⟩⟩,hk.1.2⟩)))));(case aB=>exact (bf HB));(case aF=>exact (fun k_ hk=>⟨(Nat.le_trans (below_size (bf HB)) hk),Kd.fresh' (Kd.N_lt (Nt_ HO3.out)) k_ hk,Kd.freshB (g:=gb0) (o:=.cells #[.string a0,.slice A0 l2.length c0,.slice A1 l3.length c2,.slice A2 l4.length c5,.slice (some ad0) l5.length c6,.slice A4 l6.length c7,.int .i64 a2] 28 (0,0)) (bx BK0) k_ hk⟩));(case aO=>exact (Nt_ (Kd.N_mono HO4.out (fun _ hk=>⟨hk.1.1,⟨hk.1.2.1,hk.1.2.2⟩⟩))));(case aS=>exact (below_size (bf HB)));(case aL=>have:=LMc1.out;omega);intro v9 w7 ho hb hg hat;rw [← Ny4.out] at ho;have n0:=am (Kd.N_afterv (ok:=(fun k_=>(w.heap.size≤k_)∧some k_≠(.slice Ao2 y3.length co2:Value).ownBlock∧k_≠gb0)) (Nt_ (Kd.N_mono HO3.out (fun _ hk=>⟨⟨hk.1.1,⟨hk.2,hk.1.2.2⟩⟩,hk.1.2.1⟩))) hg hat);have n1:=am (blk_grown (g:=gb0) (o:=.cells #[.string a0,.slice A0 l2.length c0,.slice A1 l3.length c2,.slice A2 l4.length c5,.slice (some ad0) l5.length c6,.slice A4 l6.length c7,.int .i64 a2] 28 (0,0)) (bx BK0) hg (Kd.N_ne HO4.out BK0.out (by decide)));have n2:=am (Kd.V_afterv (ok:=(fun k_=>(w.heap.size≤k_)∧some k_≠(.slice (some ad1) t0.length co0:Value).ownBlock∧some k_≠(.slice Ao2 y3.length co2:Value).ownBlock∧k_≠gb0)) (Vt_ (Kd.V_mono HL0.out (fun _ hk=>⟨⟨hk.1.1,⟨hk.1.2.1,⟨hk.2,hk.1.2.2.2⟩⟩⟩,hk.1.2.2.1⟩))) hg hat);have n3:=am (hb);have n4:=am (ho);clear HO3;clear BK0;clear HL0;clear HB;clear HO4;clear HO6;have HO3:=n0;have BK0:=n1;have HL0:=n2;have HB:=n3;have HO7:=n4;clear n0 n1 n2 n3 n4;clear ho hb hg hat))
 go_roundg k2
 case measure=>have:=HK1.out;have:=HK2.out;omega
 case rel=>exact ⟨(y4),(wrap64 (x3+1)),(aq),H',⟨by have:=HK1.out;have:=HK2.out;omega⟩,⟨Nt_ (Kd.N_mono HO3.out (fun _ hk=>⟨hk.1.1,⟨hk.2,hk.1.2.2⟩⟩))⟩,⟨Nt_ HO7.out⟩,bu_ BK0,⟨bf HB⟩⟩};{
 rw [if_neg c23] at H
 exact absurd H (by simp)}};{
 rw [if_neg c22] at H
 exact absurd H (by simp)}};{
 rw [if_neg c21] at H
 exact absurd H (by simp)}};{
 rw [if_neg c20] at H
 have c28:decide ((x2.length:Int)<100)=false:=decide_eq_false c20
 have c29:decide (x2.length<100)=false:=decide_eq_false (by omega)
 clear c20
 have H':=am H
 clear H
 obtain ⟨Ao3,co3,eo3⟩:=Kd.N_slice HO3.out
 subst eo3
 obtain ⟨Ao4,co4,eo4⟩:=Kd.N_slice HO4.out
 subst eo4
 go_wp2
 go_roundg k2
 case measure=>have:=HK1.out;have:=HK2.out;omega
 case rel=>exact ⟨(x2),(wrap64 (x1+1)),(aq),H',⟨by have:=HK1.out;have:=HK2.out;omega⟩,⟨Nt_ HO3.out⟩,⟨Nt_ HO4.out⟩,bu_ BK0,⟨bf HB⟩⟩}};{
 rw [if_neg c19] at H
 have c26:decide (x3<(t0.length:Int))=false:=decide_eq_false c19
 clear c19
 have H':=am H
 clear H
 obtain ⟨Ao5,co5,eo5⟩:=Kd.N_slice HO3.out
 subst eo5
 go_wp2
 go_roundg k2
 case measure=>have:=HK1.out;have:=HK2.out;omega
 case rel=>exact ⟨(x2),(wrap64 (x1+1)),(aq),H',⟨by have:=HK1.out;have:=HK2.out;omega⟩,⟨Nt_ HO3.out⟩,⟨Nt_ HO4.out⟩,bu_ BK0,⟨bf HB⟩⟩}}}};{
 rw [if_neg c17] at H
 have c18:decide (x1<(((rd_T33 l5 a1).f0).length:Int))=false:=decide_eq_false c17
 clear c17
 obtain rfl:=Option.some.inj H
 have hcz2:=X.k7 BK0
 have p0:0≤(a1:Int):=od_
 have q0:a1<(l5.length:Int):=od_
 obtain ⟨ad0,A6,c24,e0,hx0,hl0,hi0⟩:=at_T33 HR3.out a1 p0 q0
 cases e0
 replace hx0:=hx_ HB hx0
 have HR5:=am hi0
 have HC5:=am hl0
 clear hi0 hl0
 replace p0:=eq_true p0
 replace q0:=eq_true q0
 go_wp2
 go_ret
 exact ⟨_,ae,by (with_reducible repeat (first|apply Kd.N_alloc|apply Kd.N_drewN|apply Kd.N_drew));exact Kd.N_mono HO4.out (fun _ hk=>hk.1),bf HB⟩}};{
 rw [if_neg c16] at H
 exact absurd H (by simp)}};{
 rw [if_neg c15] at H
 exact absurd H (by simp)}}}}
theorem carrefourref07_Phase.calls (k:Nat) (a0:ByteArray) (A0:Option Addr) (c0:Nat) (l1:List (S96)) (A1:Option Addr) (c1:Nat) (l2:List (S98)) (A2:Option Addr) (c3:Nat) (l3:List (S61)) (A3:Option Addr) (c7:Nat) (l4:List (S33)) (A4:Option Addr) (c8:Nat) (l5:List (S100)) (a2:Int) (a1:ByteArray) (r:Int) (w:World) (hr0:Kd.C k96 w A0 l1.length l1) (hc0:l1.length≤c0) (hr1:Kd.C k98 w A1 l2.length l2) (hc1:l2.length≤c1) (hr2:Kd.C k61 w A2 l3.length l3) (hc2:l3.length≤c3) (hr3:Kd.C k33 w A3 l4.length l4) (hc3:l4.length≤c7) (hr4:Kd.C k100 w A4 l5.length l5) (hc4:l5.length≤c8) (h:carrefourref07_Phase.f k a0 l1 l2 l3 l4 l5 a2 a1=some r) :
  Calls Tryd.prog 23 #[.agg #[.string a0,.slice A0 l1.length c0,.slice A1 l2.length c1,.slice A2 l3.length c3,.slice A3 l4.length c7,.slice A4 l5.length c8,.int .i64 a2],.string a1] w fun e w'=>e=.returned (.int .i64 r)∧Below w.heap.size w w':=by
 have hu0:=Tryd.underlying28
 have HR0:=am hr0
 have HC0:=am hc0
 clear hr0 hc0
 have HR1:=am hr1
 have HC1:=am hc1
 clear hr1 hc1
 have HR2:=am hr2
 have HC2:=am hc2
 clear hr2 hc2
 have HR3:=am hr3
 have HC3:=am hc3
 clear hr3 hc3
 have HR4:=am hr4
 have HC4:=am hc4
 clear hr4 hc4
 have HB:=am (Below.refl w.heap.size w)
 have H:(carrefourref07_Phase.l0 k a1 0 a0 l1 l2 l3 l4 l5 a2)=some r:=h
 clear h
 have H':=am H
 clear H
 go_enter Tryd.func23,Tryd.ntmps23
 go_wp2_with (first|((with_reducible refine gd 2 rfl ?_);refine bx_ 2 28 #[.string a0,.slice A0 l1.length c0,.slice A1 l2.length c1,.slice A2 l3.length c3,.slice A3 l4.length c7,.slice A4 l5.length c8,.int .i64 a2] rfl rfl ?_;intro gb0 hg w3 BK0 hb;have GE0:=bz HB hg;replace HB:=bs HB hb;clear hb hg))
 go_loopg [5] k (fun kq v5 w'=>∃ (x0:Int),v5=.int .i64 x0∧Aside0 (carrefourref07_Phase.l0 kq a1 x0 a0 l1 l2 l3 l4 l5 a2=some r)∧Aside0 (kq≤k)∧Aside0 (w'.heap[gb0]?=some (.cells #[.string a0,(.slice A0 l1.length c0),(.slice A1 l2.length c1),(.slice A2 l3.length c3),(.slice A3 l4.length c7),(.slice A4 l5.length c8),.int .i64 a2] 28 (0,0)))∧Aside0 (Below w.heap.size w w'))
 case atStart=>exact ⟨(0),(aq),H',⟨Nat.le_refl _⟩,bu_ BK0,⟨bf HB⟩⟩
 case round =>skip;{
 clear H'
 (try clear c2);(try clear p2)
 obtain ⟨x0,rfl,HA,HK1,BK0,HB⟩:=hrel
 cases gk with
 | zero=>exact absurd HA.out (by simp [carrefourref07_Phase.l0])
 | succ k1 =>skip;{
 have H:=HA.out
 clear HA
 simp only [carrefourref07_Phase.l0] at H
 by_cases c4:x0<(l3.length:Int);{
 rw [if_pos c4] at H
 have c9:decide (x0<(l3.length:Int))=true:=decide_eq_true c4
 clear c4
 by_cases c5:0≤x0;{
 rw [if_pos c5] at H
 have c10:decide (0≤x0)=true:=decide_eq_true c5
 clear c5
 by_cases c6:((rd_T61 l3 x0).f0).toList=a1.toList;{
 rw [if_pos c6] at H
 have c11:(((rd_T61 l3 x0).f0).toList==a1.toList)=true:=beq_iff_eq.mpr c6
 have c12:(((rd_T61 l3 x0).f0).toList != a1.toList)=false:=bne_eq_false_iff_eq.mpr c6
 clear c6
 obtain rfl:=Option.some.inj H
 have hcz7:=X.k7 BK0
 have p0:0≤(x0:Int):=od_
 have q0:x0<(l3.length:Int):=od_
 obtain ⟨ad0,A5,c13,e0,hx0,hx1,hx2,hl0,hi0⟩:=at_T61 HR2.out x0 p0 q0
 cases e0
 replace hx0:=hx_ HB hx0
 replace hx1:=hx_ HB hx1
 replace hx2:=hx_ HB hx2
 have HR5:=am hi0
 have HC5:=am hl0
 clear hi0 hl0
 replace p0:=eq_true p0
 replace q0:=eq_true q0
 go_wp2
 go_ret
 exact ⟨ae,bf HB⟩};{
 rw [if_neg c6] at H
 have c11:(((rd_T61 l3 x0).f0).toList==a1.toList)=false:=beq_eq_false_iff_ne.mpr c6
 have c12:(((rd_T61 l3 x0).f0).toList != a1.toList)=true:=bne_iff_ne.mpr c6
 have H':=am H
 clear H
 have hcz8:=X.k7 BK0
 have p0:0≤(x0:Int):=od_
 have q0:x0<(l3.length:Int):=od_
 obtain ⟨ad0,A5,c13,e0,hx0,hx1,hx2,hl0,hi0⟩:=at_T61 HR2.out x0 p0 q0
 cases e0
 replace hx0:=hx_ HB hx0
 replace hx1:=hx_ HB hx1
 replace hx2:=hx_ HB hx2
 have HR5:=am hi0
 have HC5:=am hl0
 clear hi0 hl0
 replace p0:=eq_true p0
 replace q0:=eq_true q0
 go_wp2
 go_roundg k1
 case measure=>have:=HK1.out;omega
 case rel=>exact ⟨(wrap64 (x0+1)),(aq),H',⟨by have:=HK1.out;omega⟩,bu_ BK0,⟨bf HB⟩⟩}};{
 rw [if_neg c5] at H
 exact absurd H (by simp)}};{
 rw [if_neg c4] at H
 have c9:decide (x0<(l3.length:Int))=false:=decide_eq_false c4
 clear c4
 obtain rfl:=Option.some.inj H
 have hcz9:=X.k7 BK0
 go_wp2
 go_ret
 exact ⟨ae,bf HB⟩}}}
end Go.Proofs.YtenphnkiacfmiaaDoor.X
