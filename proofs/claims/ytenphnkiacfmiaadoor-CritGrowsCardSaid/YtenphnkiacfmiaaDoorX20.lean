/- Walks: each '.calls' says that the Go function comes to what its Lean function tells. Conditions: as each theorem's head says. -/
import Derived.Test.YtenphnkiacfmiaaDoorXD
import Derived.Test.YtenphnkiacfmiaaDoorX0
import Derived.Test.YtenphnkiacfmiaaDoorX17
namespace Go.Proofs.YtenphnkiacfmiaaDoor.X
open Go.RowKit Go.Proofs.YtenphnkiacfmiaaDoorW.PrintWords Go.Proofs.YtenphnkiacfmiaaDoorW.PrintLast Go.Proofs.YtenphnkiacfmiaaDoorW.PrintMore
attribute [local go_sem] max2_int min2_int max_two min_two max_three min_three max_four min_four
set_option linter.unusedVariables false
set_option maxHeartbeats 8000000
set_option maxRecDepth 100000
set_option linter.unusedSimpArgs false
theorem carrefourref02_Right.calls (k:Nat) (a0:Int) (a1:Int) (r:Bool) (w:World) (h:carrefourref02_Right.f k a0 a1=some r) :
  Calls Tryd.prog 14 #[.agg #[.int .i64 a0,.int .i64 a1]] w fun e w'=>e=.returned (.bool r)∧Below w.heap.size w w':=by
 have hu0:=Tryd.underlying36
 have HB:=am (Below.refl w.heap.size w)
 have H:(if a1≥1 then ((carrefourref01_Size.f a0).bind fun t0=>((carrefourref02_gcd.f k t0 (IntKind.u64.wrap (a1))).bind fun t1=>(some (t1==1)))) else (some false))=some r:=h
 clear h
 by_cases c2:a1≥1;{
 rw [if_pos c2] at H
 have c0:decide (1≤a1)=true:=decide_eq_true c2
 clear c2
 replace H:=bi_ H;obtain ⟨t0,A3,H⟩:=H
 (try dsimp only at H)
 replace H:=bi_ H;obtain ⟨t1,A4,H⟩:=H
 (try dsimp only at H)
 obtain rfl:=Option.some.inj H
 go_enter Tryd.func14,Tryd.ntmps14
 go_wp2_with (first|((with_reducible refine gd 1 rfl ?_);refine bx_ 1 36 #[.int .i64 a0,.int .i64 a1] rfl rfl ?_;intro gb0 hg w5 BK0 hb;have GE0:=bz HB hg;replace HB:=bs HB hb;clear hb hg;have hcz6:=X.k2 BK0)|(go_at_call 30;(with_reducible refine (carrefourref01_Size.calls _ _ _ A3.out).mono ?_);rintro e w' ⟨rfl,⟨nd,rfl⟩⟩;(try first|exact ⟨rfl,_,World.drewN_drewN _ _ _⟩|exact ⟨rfl,_,Eq.trans (World.drewN_drewN _ _ _) (congrArg (World.drewN _) (Nat.add_assoc _ _ _))⟩))|(go_at_call 35;(with_reducible refine (carrefourref02_gcd.calls _ _ (IntKind.u64.wrap (a1)) _ _ A4.out).mono ?_);rintro e w' ⟨rfl,⟨nd,rfl⟩⟩;(try first|exact ⟨rfl,_,World.drewN_drewN _ _ _⟩|exact ⟨rfl,_,Eq.trans (World.drewN_drewN _ _ _) (congrArg (World.drewN _) (Nat.add_assoc _ _ _))⟩)))
 repeat (go_quiet (first|((with_reducible refine gd 1 rfl ?_);refine bx_ 1 36 #[.int .i64 a0,.int .i64 a1] rfl rfl ?_;intro gb0 hg w5 BK0 hb;have GE0:=bz HB hg;replace HB:=bs HB hb;clear hb hg;have hcz6:=X.k2 BK0)|(go_at_call 30;(with_reducible refine (carrefourref01_Size.calls _ _ _ A3.out).mono ?_);rintro e w' ⟨rfl,⟨nd,rfl⟩⟩;(try first|exact ⟨rfl,_,World.drewN_drewN _ _ _⟩|exact ⟨rfl,_,Eq.trans (World.drewN_drewN _ _ _) (congrArg (World.drewN _) (Nat.add_assoc _ _ _))⟩))|(go_at_call 35;(with_reducible refine (carrefourref02_gcd.calls _ _ (IntKind.u64.wrap (a1)) _ _ A4.out).mono ?_);rintro e w' ⟨rfl,⟨nd,rfl⟩⟩;(try first|exact ⟨rfl,_,World.drewN_drewN _ _ _⟩|exact ⟨rfl,_,Eq.trans (World.drewN_drewN _ _ _) (congrArg (World.drewN _) (Nat.add_assoc _ _ _))⟩)));try go_wp2_with (first|((with_reducible refine gd 1 rfl ?_);refine bx_ 1 36 #[.int .i64 a0,.int .i64 a1] rfl rfl ?_;intro gb0 hg w5 BK0 hb;have GE0:=bz HB hg;replace HB:=bs HB hb;clear hb hg;have hcz6:=X.k2 BK0)|(go_at_call 30;(with_reducible refine (carrefourref01_Size.calls _ _ _ A3.out).mono ?_);rintro e w' ⟨rfl,⟨nd,rfl⟩⟩;(try first|exact ⟨rfl,_,World.drewN_drewN _ _ _⟩|exact ⟨rfl,_,Eq.trans (World.drewN_drewN _ _ _) (congrArg (World.drewN _) (Nat.add_assoc _ _ _))⟩))|(go_at_call 35;(with_reducible refine (carrefourref02_gcd.calls _ _ (IntKind.u64.wrap (a1)) _ _ A4.out).mono ?_);rintro e w' ⟨rfl,⟨nd,rfl⟩⟩;(try first|exact ⟨rfl,_,World.drewN_drewN _ _ _⟩|exact ⟨rfl,_,Eq.trans (World.drewN_drewN _ _ _) (congrArg (World.drewN _) (Nat.add_assoc _ _ _))⟩))))
 go_ret
 exact ⟨ae,bf HB⟩};{
 rw [if_neg c2] at H
 have c0:decide (1≤a1)=false:=decide_eq_false c2
 clear c2
 obtain rfl:=Option.some.inj H
 go_enter Tryd.func14,Tryd.ntmps14
 go_wp2_with (first|((with_reducible refine gd 1 rfl ?_);refine bx_ 1 36 #[.int .i64 a0,.int .i64 a1] rfl rfl ?_;intro gb0 hg w7 BK0 hb;have GE0:=bz HB hg;replace HB:=bs HB hb;clear hb hg;have hcz8:=X.k2 BK0))
 repeat (go_quiet (first|((with_reducible refine gd 1 rfl ?_);refine bx_ 1 36 #[.int .i64 a0,.int .i64 a1] rfl rfl ?_;intro gb0 hg w7 BK0 hb;have GE0:=bz HB hg;replace HB:=bs HB hb;clear hb hg;have hcz8:=X.k2 BK0));try go_wp2_with (first|((with_reducible refine gd 1 rfl ?_);refine bx_ 1 36 #[.int .i64 a0,.int .i64 a1] rfl rfl ?_;intro gb0 hg w7 BK0 hb;have GE0:=bz HB hg;replace HB:=bs HB hb;clear hb hg;have hcz8:=X.k2 BK0)))
 go_ret
 exact ⟨ae,bf HB⟩}
theorem carrefourref02_Norm.calls (k:Nat) (a0:Int) (a1:Int) (r1:Int) (r2:Int) (w:World) (h:carrefourref02_Norm.f k a0 a1=some (r1,r2)) :
  Calls Tryd.prog 24 #[.agg #[.int .i64 a0,.int .i64 a1]] w fun e w'=>e=.returned (.agg #[.int .i64 r1,.int .i64 r2])∧Below w.heap.size w w':=by
 have hu0:=Tryd.underlying36
 have HB:=am (Below.refl w.heap.size w)
 have H:((carrefourref02_Right.f k a0 a1).bind fun t0=>(if t0=true then (some (a0,a1)) else (some (0,1))))=some (r1,r2):=h
 clear h
 replace H:=bi_ H;obtain ⟨t0,A2,H⟩:=H
 (try dsimp only at H)
 by_cases c3:t0=true;{
 subst c3
 have H1:(some (a0,a1))=some (r1,r2):=by rw [if_pos rfl] at H;exact H
 clear H
 have H:=H1
 clear H1
 simp only [Option.some.injEq,Prod.mk.injEq] at H
 obtain ⟨rfl,rfl⟩:=H
 go_enter Tryd.func24,Tryd.ntmps24
 go_wp2_with (first|((with_reducible refine gd 1 rfl ?_);refine bx_ 1 36 #[.int .i64 a0,.int .i64 a1] rfl rfl ?_;intro gb0 hg w4 BK0 hb;have GE0:=bz HB hg;replace HB:=bs HB hb;clear hb hg)|((with_reducible refine gd 2 rfl ?_);refine bx_ 2 36 #[.int .i64 0,.int .i64 0] rfl rfl ?_;intro gb1 hg w5 BK1 hb;have GE1:=bz HB hg;have ⟨NB0,NB1⟩:=nb BK0 hg;replace BK0:=bb BK0 hb;replace HB:=bs HB hb;clear hb hg;have hnb6:=nn NB0;have hcz7:=X.k2 BK0)|((with_reducible refine gc 14 rfl ?_);refine gm_ (some 4) rfl rfl Tryd.func14 (carrefourref02_Right.calls _ _ _ _ _ A2.out) ag ?_;intro w8 hb;replace BK0:=bb BK0 hb;replace BK1:=bb BK1 hb;replace HB:=bs HB hb;(try clear hb);have hcz9:=X.k2 BK0;have hcz0:=X.k2 BK1))
 refine bodyPost_ret (results_cell_row rfl _ _ gb1 36 #[.int .i64 a0,.int .i64 a1] (0,0) _ rfl (br_ BK1) Tryd.underlying36 rfl (by kernel_rfl)) rfl ?_
 exact ⟨ae,bf HB⟩};{
 replace c3:=Bool.eq_false_iff.mpr c3
 subst c3
 have H1:(some (0,1))=some (r1,r2):=by rw [if_neg (show ¬ (false=true) by decide)] at H;exact H
 clear H
 have H:=H1
 clear H1
 simp only [Option.some.injEq,Prod.mk.injEq] at H
 obtain ⟨rfl,rfl⟩:=H
 go_enter Tryd.func24,Tryd.ntmps24
 go_wp2_with (first|((with_reducible refine gd 1 rfl ?_);refine bx_ 1 36 #[.int .i64 a0,.int .i64 a1] rfl rfl ?_;intro gb0 hg w0 BK0 hb;have GE0:=bz HB hg;replace HB:=bs HB hb;clear hb hg)|((with_reducible refine gd 2 rfl ?_);refine bx_ 2 36 #[.int .i64 0,.int .i64 0] rfl rfl ?_;intro gb1 hg w1 BK1 hb;have GE1:=bz HB hg;have ⟨NB0,NB1⟩:=nb BK0 hg;replace BK0:=bb BK0 hb;replace HB:=bs HB hb;clear hb hg;have hnb0:=nn NB0;have hcz1:=X.k2 BK0)|((with_reducible refine gc 14 rfl ?_);refine gm_ (some 4) rfl rfl Tryd.func14 (carrefourref02_Right.calls _ _ _ _ _ A2.out) ag ?_;intro w2 hb;replace BK1:=bb BK1 hb;replace HB:=bs HB hb;(try clear hb);have hcz2:=X.k2 BK1))
 refine bodyPost_ret (results_cell_row rfl _ _ gb1 36 #[.int .i64 0,.int .i64 1] (0,0) _ rfl (br_ BK1) Tryd.underlying36 rfl (by kernel_rfl)) rfl ?_
 exact ⟨ae,bf HB⟩}
theorem carrefourref01_Plus.calls (k:Nat) (A0:Option Addr) (c0:Nat) (l0:List Int) (A1:Option Addr) (c1:Nat) (l1:List Int) (r:List Int) (w:World) (hr0:Kd.C (Kd.int .u64) w A0 l0.length l0) (hc0:l0.length≤c0) (hr1:Kd.C (Kd.int .u64) w A1 l1.length l1) (hc1:l1.length≤c1) (h:carrefourref01_Plus.f k l0 l1=some r) :
  Calls Tryd.prog 32 #[.slice A0 l0.length c0,.slice A1 l1.length c1] w fun e w'=>∃ v0:Value,e=.returned (v0)∧Kd.R (Kd.int .u64) 78 w' w.heap.size (fun _=>True) v0 r∧Below w.heap.size w w':=by
 have HR0:=am hr0
 have HC0:=am hc0
 clear hr0 hc0
 have HR1:=am hr1
 have HC1:=am hc1
 clear hr1 hc1
 have HB:=am (Below.refl w.heap.size w)
 have H:(carrefourref01_Plus.l0 k l0 l1 ([]:List Int) 0 0)=some r:=h
 clear h
 have H':=am H
 clear H
 go_enter Tryd.func32,Tryd.ntmps32
 go_wp2
 go_loopg [5,6,7] k (fun kq v5 v6 v7 w'=>∃ (x0:List Int) (x1:Int) (x2:Int),v6=.int .u64 x1∧v7=.int .i64 x2∧Aside0 (carrefourref01_Plus.l0 kq l0 l1 x0 x1 x2=some r)∧Aside0 (kq≤k)∧Aside0 (Kd.R (Kd.int .u64) 78 w' w.heap.size (fun _=>True) v5 x0)∧Aside0 (Below w.heap.size w w'))
 case atStart=>exact ⟨(([]:List Int)),(0),(0),(aq),(aq),H',⟨Nat.le_refl _⟩,⟨by first|exact Kd.R_nil _ _ _ _ _|exact Kd.N_nil _ _ _ _ _|exact Kd.V_nil _ _ _ _ _|exact Kd.Q_nil _ _ _ _ _|exact Kd.S_nil _ _ _ _ _⟩,⟨bf HB⟩⟩
 case round =>skip;{
 clear H'
 (try clear c1);(try clear p2)
 obtain ⟨x0,x1,x2,rfl,rfl,HA,HK1,HO0,HB⟩:=hrel
 cases gk with
 | zero=>exact absurd HA.out (by simp [carrefourref01_Plus.l0])
 | succ k1 =>skip;{
 have H:=HA.out
 clear HA
 simp only [carrefourref01_Plus.l0] at H
 have HC3:=am H
 clear H
 go_upto_region 4 with (fail)
 go_cut [22] (fun v1 wc=>∃ (kq:Nat) (x3:Bool),v1=.bool x3∧Aside0 (carrefourref01_Plus.j1 kq l0 l1 x0 x1 x2 x3=some r)∧Aside0 (kq≤k1)∧Aside0 (Kd.R (Kd.int .u64) 78 wc w.heap.size (fun _=>True) u5 x0)∧Aside0 (Below w.heap.size w wc))
 case first =>skip;{
 have H:=HC3.out
 clear HC3
 by_cases c4:x2<(l0.length:Int);{
 rw [if_pos c4] at H
 have c2:decide (x2<(l0.length:Int))=true:=decide_eq_true c4
 clear c4
 (first|rw [c2]|(simp only [i64_w,i32_w];rw [c2])|skip)
 have H':=am H
 clear H
 go_wp2
 go_meet
 case rel=>exact ⟨_,(true),(aq),H',⟨by have:=HK1.out;first|omega|exact Nat.le_refl _⟩,⟨Rt_ HO0.out⟩,⟨bf HB⟩⟩};{
 rw [if_neg c4] at H
 have c2:decide (x2<(l0.length:Int))=false:=decide_eq_false c4
 clear c4
 (first|rw [c2]|(simp only [i64_w,i32_w];rw [c2])|skip)
 by_cases c5:x2<(l1.length:Int);{
 rw [if_pos c5] at H
 have c11:decide (x2<(l1.length:Int))=true:=decide_eq_true c5
 clear c5
 have H':=am H
 clear H
 go_wp2
 go_meet
 case rel=>exact ⟨_,(true),(aq),H',⟨by have:=HK1.out;first|omega|exact Nat.le_refl _⟩,⟨Rt_ HO0.out⟩,⟨bf HB⟩⟩};{
 rw [if_neg c5] at H
 have c11:decide (x2<(l1.length:Int))=false:=decide_eq_false c5
 clear c5
 have H':=am H
 clear H
 go_wp2
 go_meet
 case rel=>exact ⟨_,(decide (x1>0)),(aq),H',⟨by have:=HK1.out;first|omega|exact Nat.le_refl _⟩,⟨Rt_ HO0.out⟩,⟨bf HB⟩⟩}}}
 case rest =>skip;{
 clear HC3
 (try clear c1);(try clear p2);(try clear c3);(try clear c4);(try clear c2);(try clear c5);(try clear c11);(try clear p2)
 obtain ⟨kq,x3,rfl,HA,HJ2,HO0,HB⟩:=hcut
 cases kq with
 | zero=>exact absurd HA.out (by simp [carrefourref01_Plus.j1])
 | succ kj2 =>skip;{
 have H:=HA.out
 clear HA
 simp only [carrefourref01_Plus.j1] at H
 by_cases c6:x3=true;{
 subst c6
 have H1:(if x2<(l0.length:Int) then (if 0≤x2 then (if x2<(l1.length:Int) then (if x0.length<17592186044416 then (carrefourref01_Plus.l0 kj2 l0 l1 (x0++[Int.tmod (IntKind.u64.wrap ((IntKind.u64.wrap (x1+(rd l0 x2)))+(rd l1 x2))) 65536]) (IntKind.u64.wrap (Int.tdiv (IntKind.u64.wrap ((IntKind.u64.wrap (x1+(rd l0 x2)))+(rd l1 x2))) 65536)) (wrap64 (x2+1))) else (none)) else (if x0.length<17592186044416 then (carrefourref01_Plus.l0 kj2 l0 l1 (x0++[Int.tmod (IntKind.u64.wrap (x1+(rd l0 x2))) 65536]) (IntKind.u64.wrap (Int.tdiv (IntKind.u64.wrap (x1+(rd l0 x2))) 65536)) (wrap64 (x2+1))) else (none))) else (none)) else (if x2<(l1.length:Int) then (if 0≤x2 then (if x0.length<17592186044416 then (carrefourref01_Plus.l0 kj2 l0 l1 (x0++[Int.tmod (IntKind.u64.wrap (x1+(rd l1 x2))) 65536]) (IntKind.u64.wrap (Int.tdiv (IntKind.u64.wrap (x1+(rd l1 x2))) 65536)) (wrap64 (x2+1))) else (none)) else (none)) else (if x0.length<17592186044416 then (carrefourref01_Plus.l0 kj2 l0 l1 (x0++[Int.tmod x1 65536]) (IntKind.u64.wrap (Int.tdiv x1 65536)) (wrap64 (x2+1))) else (none))))=some r:=by rw [if_pos rfl] at H;exact H
 clear H
 have H:=H1
 clear H1
 by_cases c7:x2<(l0.length:Int);{
 rw [if_pos c7] at H
 have c13:decide (x2<(l0.length:Int))=true:=decide_eq_true c7
 clear c7
 by_cases c8:0≤x2;{
 rw [if_pos c8] at H
 have c17:decide (0≤x2)=true:=decide_eq_true c8
 clear c8
 by_cases c9:x2<(l1.length:Int);{
 rw [if_pos c9] at H
 have c19:decide (x2<(l1.length:Int))=true:=decide_eq_true c9
 clear c9
 by_cases c10:x0.length<17592186044416;{
 rw [if_pos c10] at H
 have LMc0:=am c10
 clear c10
 obtain ⟨y0,hy0⟩:∃ y_:List Int,y_=(x0++[Int.tmod (IntKind.u64.wrap ((IntKind.u64.wrap (x1+(rd l0 x2)))+(rd l1 x2))) 65536]):=⟨_,rfl⟩
 replace H:(carrefourref01_Plus.l0 kj2 l0 l1 y0 (IntKind.u64.wrap (Int.tdiv (IntKind.u64.wrap ((IntKind.u64.wrap (x1+(rd l0 x2)))+(rd l1 x2))) 65536)) (wrap64 (x2+1)))=some r:=by first|(rw [hy0];with_reducible exact H)|(have H0:=(Option.bind_some _ _).symm.trans H;rw [hy0];with_reducible exact H0)|(have H0:=(Option.bind_some _ _).symm.trans H;with_reducible exact H0)|with_reducible exact H|(rw [hy0];exact H)|exact H
 have Ny0:=am hy0
 clear hy0
 have H':=am H
 clear H
 have p0:0≤(x2:Int):=od_
 have q0:x2<(l0.length:Int):=od_
 obtain ⟨ad0,e0,hx0⟩:=Kd.at_int HR0.out x2 p0 q0
 cases e0
 replace hx0:=hx_ HB hx0
 replace p0:=eq_true p0
 replace q0:=eq_true q0
 have p1:0≤(x2:Int):=od_
 have q1:x2<(l1.length:Int):=od_
 obtain ⟨ad1,e1,hx1⟩:=Kd.at_int HR1.out x2 p1 q1
 cases e1
 replace hx1:=hx_ HB hx1
 replace p1:=eq_true p1
 replace q1:=eq_true q1
 go_wp2_with (first|((with_reducible refine gate_builtin (b:=.append) (xs:=#[.tmp 46,.tmp 49]) rfl ?_);(try (refine gate_guard (by rfl) ?_;dsimp only));at_builtin;refine Kd.R_append (Kd.int .u64) (w0:=w) w.heap.size rfl (.tmp 46) (.tmp 49) 75 78 (.int .u64 0) 8 rfl Tryd.underlying75 info78 rfl (by decide) (by omega) u5 x0 (Int.tmod (IntKind.u64.wrap ((IntKind.u64.wrap (x1+(rd l0 x2)))+(rd l1 x2))) 65536) [.int .u64 (Int.tmod (IntKind.u64.wrap ((IntKind.u64.wrap (x1+(rd l0 x2)))+(rd l1 x2))) 65536)] (fun _=>True) (fun _=>False) rfl rfl ?aP (fun _ hk=>hk.elim) ?aF ?aO ?aB ?aS ?aL ?_;(case aP=>exact rfl);(case aB=>exact (bf HB));(case aF=>exact (fun _ _=>trivial));(case aO=>exact (Rt_ HO0.out));(case aS=>exact (below_size (bf HB)));(case aL=>have:=LMc0.out;omega);intro v2 w1 ho hb hg hat;rw [← Ny0.out] at ho;have n0:=am (hb);have n1:=am (ho);clear HB;clear HO0;have HB:=n0;have HO1:=n1;clear n0 n1;clear ho hb hg hat))
 go_roundg kj2
 case measure=>have:=HK1.out;have:=HJ2.out;omega
 case rel=>exact ⟨(y0),(IntKind.u64.wrap (Int.tdiv (IntKind.u64.wrap ((IntKind.u64.wrap (x1+(rd l0 x2)))+(rd l1 x2))) 65536)),(wrap64 (x2+1)),(aq),(aq),H',⟨by have:=HK1.out;have:=HJ2.out;omega⟩,⟨Rt_ HO1.out⟩,⟨bf HB⟩⟩};{
 rw [if_neg c10] at H
 exact absurd H (by simp)}};{
 rw [if_neg c9] at H
 have c19:decide (x2<(l1.length:Int))=false:=decide_eq_false c9
 clear c9
 by_cases c12:x0.length<17592186044416;{
 rw [if_pos c12] at H
 have LMc1:=am c12
 clear c12
 obtain ⟨y1,hy1⟩:∃ y_:List Int,y_=(x0++[Int.tmod (IntKind.u64.wrap (x1+(rd l0 x2))) 65536]):=⟨_,rfl⟩
 replace H:(carrefourref01_Plus.l0 kj2 l0 l1 y1 (IntKind.u64.wrap (Int.tdiv (IntKind.u64.wrap (x1+(rd l0 x2))) 65536)) (wrap64 (x2+1)))=some r:=by first|(rw [hy1];with_reducible exact H)|(have H0:=(Option.bind_some _ _).symm.trans H;rw [hy1];with_reducible exact H0)|(have H0:=(Option.bind_some _ _).symm.trans H;with_reducible exact H0)|with_reducible exact H|(rw [hy1];exact H)|exact H
 have Ny1:=am hy1
 clear hy1
 have H':=am H
 clear H
 have p0:0≤(x2:Int):=od_
 have q0:x2<(l0.length:Int):=od_
 obtain ⟨ad0,e0,hx0⟩:=Kd.at_int HR0.out x2 p0 q0
 cases e0
 replace hx0:=hx_ HB hx0
 replace p0:=eq_true p0
 replace q0:=eq_true q0
 go_wp2_with (first|((with_reducible refine gate_builtin (b:=.append) (xs:=#[.tmp 46,.tmp 49]) rfl ?_);(try (refine gate_guard (by rfl) ?_;dsimp only));at_builtin;refine Kd.R_append (Kd.int .u64) (w0:=w) w.heap.size rfl (.tmp 46) (.tmp 49) 75 78 (.int .u64 0) 8 rfl Tryd.underlying75 info78 rfl (by decide) (by omega) u5 x0 (Int.tmod (IntKind.u64.wrap (x1+(rd l0 x2))) 65536) [.int .u64 (Int.tmod (IntKind.u64.wrap (x1+(rd l0 x2))) 65536)] (fun _=>True) (fun _=>False) rfl rfl ?aP (fun _ hk=>hk.elim) ?aF ?aO ?aB ?aS ?aL ?_;(case aP=>exact rfl);(case aB=>exact (bf HB));(case aF=>exact (fun _ _=>trivial));(case aO=>exact (Rt_ HO0.out));(case aS=>exact (below_size (bf HB)));(case aL=>have:=LMc1.out;omega);intro v3 w2 ho hb hg hat;rw [← Ny1.out] at ho;have n0:=am (hb);have n1:=am (ho);clear HB;clear HO0;have HB:=n0;have HO2:=n1;clear n0 n1;clear ho hb hg hat))
 go_roundg kj2
 case measure=>have:=HK1.out;have:=HJ2.out;omega
 case rel=>exact ⟨(y1),(IntKind.u64.wrap (Int.tdiv (IntKind.u64.wrap (x1+(rd l0 x2))) 65536)),(wrap64 (x2+1)),(aq),(aq),H',⟨by have:=HK1.out;have:=HJ2.out;omega⟩,⟨Rt_ HO2.out⟩,⟨bf HB⟩⟩};{
 rw [if_neg c12] at H
 exact absurd H (by simp)}}};{
 rw [if_neg c8] at H
 exact absurd H (by simp)}};{
 rw [if_neg c7] at H
 have c13:decide (x2<(l0.length:Int))=false:=decide_eq_false c7
 clear c7
 by_cases c14:x2<(l1.length:Int);{
 rw [if_pos c14] at H
 have c23:decide (x2<(l1.length:Int))=true:=decide_eq_true c14
 clear c14
 by_cases c15:0≤x2;{
 rw [if_pos c15] at H
 have c25:decide (0≤x2)=true:=decide_eq_true c15
 clear c15
 by_cases c16:x0.length<17592186044416;{
 rw [if_pos c16] at H
 have LMc2:=am c16
 clear c16
 obtain ⟨y2,hy2⟩:∃ y_:List Int,y_=(x0++[Int.tmod (IntKind.u64.wrap (x1+(rd l1 x2))) 65536]):=⟨_,rfl⟩
 replace H:(carrefourref01_Plus.l0 kj2 l0 l1 y2 (IntKind.u64.wrap (Int.tdiv (IntKind.u64.wrap (x1+(rd l1 x2))) 65536)) (wrap64 (x2+1)))=some r:=by first|(rw [hy2];with_reducible exact H)|(have H0:=(Option.bind_some _ _).symm.trans H;rw [hy2];with_reducible exact H0)|(have H0:=(Option.bind_some _ _).symm.trans H;with_reducible exact H0)|with_reducible exact H|(rw [hy2];exact H)|exact H
 have Ny2:=am hy2
 clear hy2
 have H':=am H
 clear H
 have p3:0≤(x2:Int):=od_
 have q2:x2<(l1.length:Int):=od_
 obtain ⟨ad2,e2,hx2⟩:=Kd.at_int HR1.out x2 p3 q2
 cases e2
 replace hx2:=hx_ HB hx2
 replace p3:=eq_true p3
 replace q2:=eq_true q2
 go_wp2_with (first|((with_reducible refine gate_builtin (b:=.append) (xs:=#[.tmp 46,.tmp 49]) rfl ?_);(try (refine gate_guard (by rfl) ?_;dsimp only));at_builtin;refine Kd.R_append (Kd.int .u64) (w0:=w) w.heap.size rfl (.tmp 46) (.tmp 49) 75 78 (.int .u64 0) 8 rfl Tryd.underlying75 info78 rfl (by decide) (by omega) u5 x0 (Int.tmod (IntKind.u64.wrap (x1+(rd l1 x2))) 65536) [.int .u64 (Int.tmod (IntKind.u64.wrap (x1+(rd l1 x2))) 65536)] (fun _=>True) (fun _=>False) rfl rfl ?aP (fun _ hk=>hk.elim) ?aF ?aO ?aB ?aS ?aL ?_;(case aP=>exact rfl);(case aB=>exact (bf HB));(case aF=>exact (fun _ _=>trivial));(case aO=>exact (Rt_ HO0.out));(case aS=>exact (below_size (bf HB)));(case aL=>have:=LMc2.out;omega);intro v4 w3 ho hb hg hat;rw [← Ny2.out] at ho;have n0:=am (hb);have n1:=am (ho);clear HB;clear HO0;have HB:=n0;have HO3:=n1;clear n0 n1;clear ho hb hg hat))
 go_roundg kj2
 case measure=>have:=HK1.out;have:=HJ2.out;omega
 case rel=>exact ⟨(y2),(IntKind.u64.wrap (Int.tdiv (IntKind.u64.wrap (x1+(rd l1 x2))) 65536)),(wrap64 (x2+1)),(aq),(aq),H',⟨by have:=HK1.out;have:=HJ2.out;omega⟩,⟨Rt_ HO3.out⟩,⟨bf HB⟩⟩};{
 rw [if_neg c16] at H
 exact absurd H (by simp)}};{
 rw [if_neg c15] at H
 exact absurd H (by simp)}};{
 rw [if_neg c14] at H
 have c23:decide (x2<(l1.length:Int))=false:=decide_eq_false c14
 clear c14
 by_cases c18:x0.length<17592186044416;{
 rw [if_pos c18] at H
 have LMc3:=am c18
 clear c18
 obtain ⟨y3,hy3⟩:∃ y_:List Int,y_=(x0++[Int.tmod x1 65536]):=⟨_,rfl⟩
 replace H:(carrefourref01_Plus.l0 kj2 l0 l1 y3 (IntKind.u64.wrap (Int.tdiv x1 65536)) (wrap64 (x2+1)))=some r:=by first|(rw [hy3];with_reducible exact H)|(have H0:=(Option.bind_some _ _).symm.trans H;rw [hy3];with_reducible exact H0)|(have H0:=(Option.bind_some _ _).symm.trans H;with_reducible exact H0)|with_reducible exact H|(rw [hy3];exact H)|exact H
 have Ny3:=am hy3
 clear hy3
 have H':=am H
 clear H
 go_wp2_with (first|((with_reducible refine gate_builtin (b:=.append) (xs:=#[.tmp 46,.tmp 49]) rfl ?_);(try (refine gate_guard (by rfl) ?_;dsimp only));at_builtin;refine Kd.R_append (Kd.int .u64) (w0:=w) w.heap.size rfl (.tmp 46) (.tmp 49) 75 78 (.int .u64 0) 8 rfl Tryd.underlying75 info78 rfl (by decide) (by omega) u5 x0 (Int.tmod x1 65536) [.int .u64 (Int.tmod x1 65536)] (fun _=>True) (fun _=>False) rfl rfl ?aP (fun _ hk=>hk.elim) ?aF ?aO ?aB ?aS ?aL ?_;(case aP=>exact rfl);(case aB=>exact (bf HB));(case aF=>exact (fun _ _=>trivial));(case aO=>exact (Rt_ HO0.out));(case aS=>exact (below_size (bf HB)));(case aL=>have:=LMc3.out;omega);intro v8 w4 ho hb hg hat;rw [← Ny3.out] at ho;have n0:=am (hb);have n1:=am (ho);clear HB;clear HO0;have HB:=n0;have HO4:=n1;clear n0 n1;clear ho hb hg hat))
 go_roundg kj2
 case measure=>have:=HK1.out;have:=HJ2.out;omega
 case rel=>exact ⟨(y3),(IntKind.u64.wrap (Int.tdiv x1 65536)),(wrap64 (x2+1)),(aq),(aq),H',⟨by have:=HK1.out;have:=HJ2.out;omega⟩,⟨Rt_ HO4.out⟩,⟨bf HB⟩⟩};{
 rw [if_neg c18] at H
 exact absurd H (by simp)}}}};{
 replace c6:=Bool.eq_false_iff.mpr c6
 subst c6
 have H1:(some x0)=some r:=by rw [if_neg (show ¬ (false=true) by decide)] at H;exact H
 clear H
 have H:=H1
 clear H1
 obtain rfl:=Option.some.inj H
 go_wp2
 go_ret
 exact ⟨_,ae,by (with_reducible repeat (first|apply Kd.R_alloc|apply Kd.R_drewN|apply Kd.R_drew));exact HO0.out,bf HB⟩}}}}}
theorem carrefourref01_Parts.calls (k:Nat) (a0:Int) (r:List Int) (w:World) (h:carrefourref01_Parts.f k a0=some r) :
  Calls Tryd.prog 45 #[.int .u64 a0] w fun e w'=>∃ v1:Value,e=.returned (v1)∧Kd.R (Kd.int .u64) 78 w' w.heap.size (fun _=>True) v1 r∧Below w.heap.size w w':=by
 have HB:=am (Below.refl w.heap.size w)
 have H:(carrefourref01_Parts.l0 k a0 ([]:List Int) 0)=some r:=h
 clear h
 have H':=am H
 clear H
 go_enter Tryd.func45,Tryd.ntmps45
 go_wp2
 go_loopg [0,3,4] k (fun kq v0 v3 v4 w'=>∃ (x0:Int) (x1:List Int) (x2:Int),v0=.int .u64 x0∧v4=.int .i64 x2∧Aside0 (carrefourref01_Parts.l0 kq x0 x1 x2=some r)∧Aside0 (kq≤k)∧Aside0 (Kd.R (Kd.int .u64) 78 w' w.heap.size (fun _=>True) v3 x1)∧Aside0 (Below w.heap.size w w'))
 case atStart=>exact ⟨(a0),(([]:List Int)),(0),(aq),(aq),H',⟨Nat.le_refl _⟩,⟨by first|exact Kd.R_nil _ _ _ _ _|exact Kd.N_nil _ _ _ _ _|exact Kd.V_nil _ _ _ _ _|exact Kd.Q_nil _ _ _ _ _|exact Kd.S_nil _ _ _ _ _⟩,⟨bf HB⟩⟩
 case round =>skip;{
 clear H'
 obtain ⟨x0,x1,x2,rfl,rfl,HA,HK1,HO0,HB⟩:=hrel
 cases gk with
 | zero=>exact absurd HA.out (by simp [carrefourref01_Parts.l0])
 | succ k1 =>skip;{
 have H:=HA.out
 clear HA
 simp only [carrefourref01_Parts.l0] at H
 by_cases c2:x2<4;{
 rw [if_pos c2] at H
 have c0:decide (x2<4)=true:=decide_eq_true c2
 clear c2
 by_cases c3:x1.length<17592186044416;{
 rw [if_pos c3] at H
 have LMc3:=am c3
 clear c3
 obtain ⟨y0,hy0⟩:∃ y_:List Int,y_=(x1++[Int.tmod x0 65536]):=⟨_,rfl⟩
 replace H:(carrefourref01_Parts.l0 k1 (IntKind.u64.wrap (Int.tdiv x0 65536)) y0 (wrap64 (x2+1)))=some r:=by first|(rw [hy0];with_reducible exact H)|(have H0:=(Option.bind_some _ _).symm.trans H;rw [hy0];with_reducible exact H0)|(have H0:=(Option.bind_some _ _).symm.trans H;with_reducible exact H0)|with_reducible exact H|(rw [hy0];exact H)|exact H
 have Ny0:=am hy0
 clear hy0
 have H':=am H
 clear H
 go_wp2_with (first|((with_reducible refine gate_builtin (b:=.append) (xs:=#[.tmp 9,.tmp 12]) rfl ?_);at_builtin;refine Kd.R_append (Kd.int .u64) (w0:=w) w.heap.size rfl (.tmp 9) (.tmp 12) 75 78 (.int .u64 0) 8 rfl Tryd.underlying75 info78 rfl (by decide) (by omega) u3 x1 (Int.tmod x0 65536) [.int .u64 (Int.tmod x0 65536)] (fun _=>True) (fun _=>False) rfl rfl ?aP (fun _ hk=>hk.elim) ?aF ?aO ?aB ?aS ?aL ?_;(case aP=>exact rfl);(case aB=>exact (bf HB));(case aF=>exact (fun _ _=>trivial));(case aO=>exact (Rt_ HO0.out));(case aS=>exact (below_size (bf HB)));(case aL=>have:=LMc3.out;omega);intro v2 w4 ho hb hg hat;rw [← Ny0.out] at ho;have n0:=am (hb);have n1:=am (ho);clear HB;clear HO0;have HB:=n0;have HO1:=n1;clear n0 n1;clear ho hb hg hat))
 go_roundg k1
 case measure=>have:=HK1.out;omega
 case rel=>exact ⟨(IntKind.u64.wrap (Int.tdiv x0 65536)),(y0),(wrap64 (x2+1)),(aq),(aq),H',⟨by have:=HK1.out;omega⟩,⟨Rt_ HO1.out⟩,⟨bf HB⟩⟩};{
 rw [if_neg c3] at H
 exact absurd H (by simp)}};{
 rw [if_neg c2] at H
 have c0:decide (x2<4)=false:=decide_eq_false c2
 clear c2
 obtain rfl:=Option.some.inj H
 go_wp2
 go_ret
 exact ⟨_,ae,by (with_reducible repeat (first|apply Kd.R_alloc|apply Kd.R_drewN|apply Kd.R_drew));exact HO0.out,bf HB⟩}}}
theorem carrefourref01_Times.calls (k:Nat) (a0:Int) (a1:Int) (r:List Int) (w:World) (h:carrefourref01_Times.f k a0 a1=some r) :
  Calls Tryd.prog 29 #[.int .u64 a0,.int .u64 a1] w fun e w'=>∃ v0:Value,e=.returned (v0)∧Kd.R (Kd.int .u64) 78 w' w.heap.size (fun _=>True) v0 r∧Below w.heap.size w w':=by
 have HB:=am (Below.refl w.heap.size w)
 have H:((carrefourref01_Parts.f k a0).bind fun t0=>((carrefourref01_Parts.f k a1).bind fun t1=>(carrefourref01_Times.l0 k t0 t1 ([]:List Int) 0)))=some r:=h
 clear h
 replace H:=bi_ H;obtain ⟨t0,A3,H⟩:=H
 (try dsimp only at H)
 replace H:=bi_ H;obtain ⟨t1,A4,H⟩:=H
 (try dsimp only at H)
 have H':=am H
 clear H
 go_enter Tryd.func29,Tryd.ntmps29
 go_wp2_with (first|(go_at_call 45;(with_reducible refine (carrefourref01_Parts.calls _ _ _ _ A3.out).mono ?_);rintro e w5 ⟨v1,rfl,ho0,hb⟩;have HO0:=am (Kd.R_lower ho0 (below_size (bf HB)));replace HB:=bs HB hb;(try clear hb);(try clear ho0))|(go_at_call 45;(with_reducible refine (carrefourref01_Parts.calls _ _ _ _ A4.out).mono ?_);rintro e w6 ⟨v2,rfl,ho0,hb⟩;have HO1:=am (Kd.R_lower (Kd.R_new' ho0 (rl HO0)) (below_size (bf HB)));replace HO0:=re_ HO0 (Kd.R_base ho0) hb;replace HB:=bs HB hb;(try clear hb);(try clear ho0)))
 repeat (go_quiet (first|(go_at_call 45;(with_reducible refine (carrefourref01_Parts.calls _ _ _ _ A3.out).mono ?_);rintro e w5 ⟨v1,rfl,ho0,hb⟩;have HO0:=am (Kd.R_lower ho0 (below_size (bf HB)));replace HB:=bs HB hb;(try clear hb);(try clear ho0))|(go_at_call 45;(with_reducible refine (carrefourref01_Parts.calls _ _ _ _ A4.out).mono ?_);rintro e w6 ⟨v2,rfl,ho0,hb⟩;have HO1:=am (Kd.R_lower (Kd.R_new' ho0 (rl HO0)) (below_size (bf HB)));replace HO0:=re_ HO0 (Kd.R_base ho0) hb;replace HB:=bs HB hb;(try clear hb);(try clear ho0)));try go_wp2_with (first|(go_at_call 45;(with_reducible refine (carrefourref01_Parts.calls _ _ _ _ A3.out).mono ?_);rintro e w5 ⟨v1,rfl,ho0,hb⟩;have HO0:=am (Kd.R_lower ho0 (below_size (bf HB)));replace HB:=bs HB hb;(try clear hb);(try clear ho0))|(go_at_call 45;(with_reducible refine (carrefourref01_Parts.calls _ _ _ _ A4.out).mono ?_);rintro e w6 ⟨v2,rfl,ho0,hb⟩;have HO1:=am (Kd.R_lower (Kd.R_new' ho0 (rl HO0)) (below_size (bf HB)));replace HO0:=re_ HO0 (Kd.R_base ho0) hb;replace HB:=bs HB hb;(try clear hb);(try clear ho0))))
 go_loopg [7,8] k (fun kq v7 v8 w'=>∃ (x0:List Int) (x1:Int),v8=.int .i64 x1∧Aside0 (carrefourref01_Times.l0 kq t0 t1 x0 x1=some r)∧Aside0 (kq≤k)∧Aside0 (Kd.R (Kd.int .u64) 78 w' w.heap.size (fun k_=>some k_≠(v2:Value).ownBlock∧some k_≠(v7:Value).ownBlock) v1 t0)∧Aside0 (Kd.R (Kd.int .u64) 78 w' w.heap.size (fun k_=>some k_≠(v1:Value).ownBlock∧some k_≠(v7:Value).ownBlock) v2 t1)∧Aside0 (Kd.R (Kd.int .u64) 78 w' w.heap.size (fun k_=>some k_≠(v1:Value).ownBlock∧some k_≠(v2:Value).ownBlock) v7 x0)∧Aside0 (Below w.heap.size w w'))
 case atStart=>exact ⟨(([]:List Int)),(0),(aq),H',⟨Nat.le_refl _⟩,⟨Rt_ (Kd.R_mono HO0.out (fun _ hk=>⟨hk.2,(by simp [Value.ownBlock])⟩))⟩,⟨Rt_ (Kd.R_mono HO1.out (fun _ hk=>⟨hk.2,(by simp [Value.ownBlock])⟩))⟩,⟨by first|exact Kd.R_nil _ _ _ _ _|exact Kd.N_nil _ _ _ _ _|exact Kd.V_nil _ _ _ _ _|exact Kd.Q_nil _ _ _ _ _|exact Kd.S_nil _ _ _ _ _⟩,⟨bf HB⟩⟩
 case round =>skip;{
 clear H'
 (try clear c2);(try clear p2)
 obtain ⟨x0,x1,rfl,HA,HK1,HO2,HO3,HO4,HB⟩:=hrel
 cases gk with
 | zero=>exact absurd HA.out (by simp [carrefourref01_Times.l0])
 | succ k1 =>skip;{
 have H:=HA.out
 clear HA
 simp only [carrefourref01_Times.l0] at H
 by_cases c7:x1<4;{
 rw [if_pos c7] at H
 have c0:decide (x1<4)=true:=decide_eq_true c7
 clear c7
 by_cases c8:0≤x1;{
 rw [if_pos c8] at H
 have c1:=eq_true c8
 have c3:decide (0≤x1)=true:=decide_eq_true c8
 clear c8
 by_cases c9:(x1:Int).toNat≤35184372088832;{
 rw [if_pos c9] at H
 have c4:=eq_true c9
 have c5:decide ((x1:Int).toNat≤35184372088832)=true:=decide_eq_true c9
 clear c9
 obtain ⟨y0,hy0⟩:∃ y_:List Int,y_=(List.replicate (x1:Int).toNat 0):=⟨_,rfl⟩
 replace H:(carrefourref01_Times.l1 k1 t0 t1 x0 x1 y0 0 0)=some r:=by first|(rw [hy0];with_reducible exact H)|(have H0:=(Option.bind_some _ _).symm.trans H;rw [hy0];with_reducible exact H0)|(have H0:=(Option.bind_some _ _).symm.trans H;with_reducible exact H0)|with_reducible exact H|(rw [hy0];exact H)|exact H
 have Ny0:=am hy0
 clear hy0
 have H':=am H
 clear H
 go_wp2_with (first|((with_reducible refine gate_dst (N:=22) rfl ?_);refine Kd.R_make (Kd.int .u64) _ 78 rfl (N:=22) rfl 75 _ _ rfl x1 rfl rfl Tryd.underlying75 (.int .u64 0) 8 info78 rfl (by decide) (by omega) 0 (ok:=fun _=>True) (okp:=fun _=>True) rfl (fun _ hk=>hk) trivial (od_) (Nat.le_trans (Nat.mul_le_mul_right _ (od_:x1.toNat≤35184372088832)) (by omega)) (Below.refl _ _) (Nat.le_refl _) ?_;intro v3 w1 ho1 hb hg_ hnew_;clear hg_ hnew_;(first|rw [← Ny0.out] at ho1|(simp only [Int.reduceToNat] at ho1;rw [← Ny0.out] at ho1));have HO5:=am (Kd.R_lower (Kd.R_new' (Kd.R_new' (Kd.R_new' ho1 (Kd.R_lt (Rt_ HO2.out))) (Kd.R_lt (Rt_ HO3.out))) (Kd.R_lt (Rt_ HO4.out))) (below_size (bf HB)));replace HO2:=am (Kd.R_elder' (Rt_ HO2.out) (Kd.R_base ho1) hb);replace HO3:=am (Kd.R_elder' (Rt_ HO3.out) (Kd.R_base ho1) hb);replace HO4:=am (Kd.R_elder' (Rt_ HO4.out) (Kd.R_base ho1) hb);replace HB:=bs HB hb;clear hb ho1))
 repeat (go_quiet (first|((with_reducible refine gate_dst (N:=22) rfl ?_);refine Kd.R_make (Kd.int .u64) _ 78 rfl (N:=22) rfl 75 _ _ rfl x1 rfl rfl Tryd.underlying75 (.int .u64 0) 8 info78 rfl (by decide) (by omega) 0 (ok:=fun _=>True) (okp:=fun _=>True) rfl (fun _ hk=>hk) trivial (od_) (Nat.le_trans (Nat.mul_le_mul_right _ (od_:x1.toNat≤35184372088832)) (by omega)) (Below.refl _ _) (Nat.le_refl _) ?_;intro v3 w1 ho1 hb hg_ hnew_;clear hg_ hnew_;(first|rw [← Ny0.out] at ho1|(simp only [Int.reduceToNat] at ho1;rw [← Ny0.out] at ho1));have HO5:=am (Kd.R_lower (Kd.R_new' (Kd.R_new' (Kd.R_new' ho1 (Kd.R_lt (Rt_ HO2.out))) (Kd.R_lt (Rt_ HO3.out))) (Kd.R_lt (Rt_ HO4.out))) (below_size (bf HB)));replace HO2:=am (Kd.R_elder' (Rt_ HO2.out) (Kd.R_base ho1) hb);replace HO3:=am (Kd.R_elder' (Rt_ HO3.out) (Kd.R_base ho1) hb);replace HO4:=am (Kd.R_elder' (Rt_ HO4.out) (Kd.R_base ho1) hb);replace HB:=bs HB hb;clear hb ho1));try go_wp2_with (first|((with_reducible refine gate_dst (N:=22) rfl ?_);refine Kd.R_make (Kd.int .u64) _ 78 rfl (N:=22) rfl 75 _ _ rfl x1 rfl rfl Tryd.underlying75 (.int .u64 0) 8 info78 rfl (by decide) (by omega) 0 (ok:=fun _=>True) (okp:=fun _=>True) rfl (fun _ hk=>hk) trivial (od_) (Nat.le_trans (Nat.mul_le_mul_right _ (od_:x1.toNat≤35184372088832)) (by omega)) (Below.refl _ _) (Nat.le_refl _) ?_;intro v3 w1 ho1 hb hg_ hnew_;clear hg_ hnew_;(first|rw [← Ny0.out] at ho1|(simp only [Int.reduceToNat] at ho1;rw [← Ny0.out] at ho1));have HO5:=am (Kd.R_lower (Kd.R_new' (Kd.R_new' (Kd.R_new' ho1 (Kd.R_lt (Rt_ HO2.out))) (Kd.R_lt (Rt_ HO3.out))) (Kd.R_lt (Rt_ HO4.out))) (below_size (bf HB)));replace HO2:=am (Kd.R_elder' (Rt_ HO2.out) (Kd.R_base ho1) hb);replace HO3:=am (Kd.R_elder' (Rt_ HO3.out) (Kd.R_base ho1) hb);replace HO4:=am (Kd.R_elder' (Rt_ HO4.out) (Kd.R_base ho1) hb);replace HB:=bs HB hb;clear hb ho1)))
 go_loopg [9,10,11] k1 (fun kq v9 v4 v5 w'=>∃ (x2:List Int) (x3:Int) (x4:Int),v4=.int .u64 x3∧v5=.int .i64 x4∧Aside0 (carrefourref01_Times.l1 kq t0 t1 x0 x1 x2 x3 x4=some r)∧Aside0 (kq≤k1)∧Aside0 (Kd.R (Kd.int .u64) 78 w' w.heap.size (fun k_=>some k_≠(v2:Value).ownBlock∧some k_≠(u7:Value).ownBlock∧some k_≠(v9:Value).ownBlock) v1 t0)∧Aside0 (Kd.R (Kd.int .u64) 78 w' w.heap.size (fun k_=>some k_≠(v1:Value).ownBlock∧some k_≠(u7:Value).ownBlock∧some k_≠(v9:Value).ownBlock) v2 t1)∧Aside0 (Kd.R (Kd.int .u64) 78 w' w.heap.size (fun k_=>some k_≠(v1:Value).ownBlock∧some k_≠(v2:Value).ownBlock∧some k_≠(v9:Value).ownBlock) u7 x0)∧Aside0 (Kd.R (Kd.int .u64) 78 w' w.heap.size (fun k_=>some k_≠(v1:Value).ownBlock∧some k_≠(v2:Value).ownBlock∧some k_≠(u7:Value).ownBlock) v9 x2)∧Aside0 (Below w.heap.size w w'))
 case atStart=>exact ⟨(y0),(0),(0),(aq),(aq),H',⟨Nat.le_refl _⟩,⟨Rt_ (Kd.R_mono HO2.out (fun _ hk=>⟨hk.1.1,⟨hk.1.2,hk.2⟩⟩))⟩,⟨Rt_ (Kd.R_mono HO3.out (fun _ hk=>⟨hk.1.1,⟨hk.1.2,hk.2⟩⟩))⟩,⟨Rt_ (Kd.R_mono HO4.out (fun _ hk=>⟨hk.1.1,⟨hk.1.2,hk.2⟩⟩))⟩,⟨Rt_ (Kd.R_mono HO5.out (fun _ hk=>⟨hk.1.1.2,⟨hk.1.2,hk.2⟩⟩))⟩,⟨bf HB⟩⟩
 case round =>skip;{
 clear H'
 (try clear c2);(try clear p2);(try clear c7);(try clear c0);(try clear c8);(try clear c1);(try clear c3);(try clear c9);(try clear c4);(try clear c5);(try clear p2)
 obtain ⟨x2,x3,x4,rfl,rfl,HA,HK2,HO2,HO3,HO4,HO6,HB⟩:=hrel
 cases gk with
 | zero=>exact absurd HA.out (by simp [carrefourref01_Times.l1])
 | succ k2 =>skip;{
 have H:=HA.out
 clear HA
 simp only [carrefourref01_Times.l1] at H
 by_cases c6:x4<4;{
 rw [if_pos c6] at H
 have c10:decide (x4<4)=true:=decide_eq_true c6
 clear c6
 by_cases c13:0≤x1;{
 rw [if_pos c13] at H
 have c18:decide (0≤x1)=true:=decide_eq_true c13
 clear c13
 by_cases c14:x1<(t0.length:Int);{
 rw [if_pos c14] at H
 have c20:decide (x1<(t0.length:Int))=true:=decide_eq_true c14
 clear c14
 by_cases c15:0≤x4;{
 rw [if_pos c15] at H
 have c23:decide (0≤x4)=true:=decide_eq_true c15
 clear c15
 by_cases c16:x4<(t1.length:Int);{
 rw [if_pos c16] at H
 have c25:decide (x4<(t1.length:Int))=true:=decide_eq_true c16
 clear c16
 by_cases c17:x2.length<17592186044416;{
 rw [if_pos c17] at H
 have LMc0:=am c17
 clear c17
 obtain ⟨y1,hy1⟩:∃ y_:List Int,y_=(x2++[Int.tmod (IntKind.u64.wrap ((IntKind.u64.wrap ((rd t0 x1)*(rd t1 x4)))+x3)) 65536]):=⟨_,rfl⟩
 replace H:(carrefourref01_Times.l1 k2 t0 t1 x0 x1 y1 (IntKind.u64.wrap (Int.tdiv (IntKind.u64.wrap ((IntKind.u64.wrap ((rd t0 x1)*(rd t1 x4)))+x3)) 65536)) (wrap64 (x4+1)))=some r:=by first|(rw [hy1];with_reducible exact H)|(have H0:=(Option.bind_some _ _).symm.trans H;rw [hy1];with_reducible exact H0)|(have H0:=(Option.bind_some _ _).symm.trans H;with_reducible exact H0)|with_reducible exact H|(rw [hy1];exact H)|exact H
 have Ny1:=am hy1
 clear hy1
 have H':=am H
 clear H
 obtain ⟨Ao0,co0,eo0⟩:=Kd.R_slice HO2.out
 subst eo0
 have p0:0≤(x1:Int):=od_
 have q0:x1<(t0.length:Int):=od_
 obtain ⟨ad0,e0,hx0⟩:=Kd.at_int (Kd.R_reads' HO2.out).2.2 x1 p0 q0
 cases e0
 replace p0:=eq_true p0
 replace q0:=eq_true q0
 obtain ⟨Ao1,co1,eo1⟩:=Kd.R_slice HO3.out
 subst eo1
 have p1:0≤(x4:Int):=od_
 have q1:x4<(t1.length:Int):=od_
 obtain ⟨ad1,e1,hx1⟩:=Kd.at_int (Kd.R_reads' HO3.out).2.2 x4 p1 q1
 cases e1
 replace p1:=eq_true p1
 replace q1:=eq_true q1
 go_wp2_with (first|((with_reducible refine gate_builtin (b:=.append) (xs:=#[.tmp 38,.tmp 41]) rfl ?_);at_builtin;refine Kd.R_append (Kd.int .u64) (w0:=w) w.heap.size rfl (.tmp 38) (.tmp 41) 75 78 (.int .u64 0) 8 rfl Tryd.underlying75 info78 rfl (by decide) (by omega) u9 x2 (Int.tmod (IntKind.u64.wrap ((IntKind.u64.wrap ((rd t0 x1)*(rd t1 x4)))+x3)) 65536) [.int .u64 (Int.tmod (IntKind.u64.wrap ((IntKind.u64.wrap ((rd t0 x1)*(rd t1 x4)))+x3)) 65536)] (fun k_=>some k_≠(.slice (some ad0) t0.length co0:Value).ownBlock∧some k_≠(.slice (some ad1) t1.length co1:Value).ownBlock∧some k_≠(u7:Value).ownBlock) (fun _=>False) rfl rfl ?aP (fun _ hk=>hk.elim) ?aF ?aO ?aB ?aS ?aL ?_;(case aP=>exact rfl);(case aB=>exact (bf HB));(case aF=>exact (fun k_ hk=>⟨Kd.fresh' (Kd.R_lt (Rt_ HO2.out)) k_ hk,Kd.fresh' (Kd.R_lt (Rt_ HO3.out)) k_ hk,Kd.fresh' (Kd.R_lt (Rt_ HO4.out)) k_ hk⟩));(case aO=>exact (Rt_ HO6.out));(case aS=>exact (below_size (bf HB)));(case aL=>have:=LMc0.out;omega);intro v6 w2 ho hb hg hat;rw [← Ny1.out] at ho;have n0:=am (Kd.R_after (ok:=(fun k_=>some k_≠(.slice (some ad1) t1.length co1:Value).ownBlock∧some k_≠(u7:Value).ownBlock)) (Rt_ (Kd.R_mono HO2.out (fun _ hk=>⟨⟨hk.1,hk.2.1⟩,hk.2.2⟩))) hg hat);have n1:=am (Kd.R_after (ok:=(fun k_=>some k_≠(.slice (some ad0) t0.length co0:Value).ownBlock∧some k_≠(u7:Value).ownBlock)) (Rt_ (Kd.R_mono HO3.out (fun _ hk=>⟨⟨hk.1,hk.2.1⟩,hk.2.2⟩))) hg hat);have n2:=am (Kd.R_after (ok:=(fun k_=>some k_≠(.slice (some ad0) t0.length co0:Value).ownBlock∧some k_≠(.slice (some ad1) t1.length co1:Value).ownBlock)) (Rt_ (Kd.R_mono HO4.out (fun _ hk=>⟨⟨hk.1,hk.2.1⟩,hk.2.2⟩))) hg hat);have n3:=am (hb);have n4:=am (ho);clear HO2;clear HO3;clear HO4;clear HB;clear HO6;have HO2:=n0;have HO3:=n1;have HO4:=n2;have HB:=n3;have HO7:=n4;clear n0 n1 n2 n3 n4;clear ho hb hg hat))
 repeat (go_quiet (first|((with_reducible refine gate_builtin (b:=.append) (xs:=#[.tmp 38,.tmp 41]) rfl ?_);at_builtin;refine Kd.R_append (Kd.int .u64) (w0:=w) w.heap.size rfl (.tmp 38) (.tmp 41) 75 78 (.int .u64 0) 8 rfl Tryd.underlying75 info78 rfl (by decide) (by omega) u9 x2 (Int.tmod (IntKind.u64.wrap ((IntKind.u64.wrap ((rd t0 x1)*(rd t1 x4)))+x3)) 65536) [.int .u64 (Int.tmod (IntKind.u64.wrap ((IntKind.u64.wrap ((rd t0 x1)*(rd t1 x4)))+x3)) 65536)] (fun k_=>some k_≠(.slice (some ad0) t0.length co0:Value).ownBlock∧some k_≠(.slice (some ad1) t1.length co1:Value).ownBlock∧some k_≠(u7:Value).ownBlock) (fun _=>False) rfl rfl ?aP (fun _ hk=>hk.elim) ?aF ?aO ?aB ?aS ?aL ?_;(case aP=>exact rfl);(case aB=>exact (bf HB));(case aF=>exact (fun k_ hk=>⟨Kd.fresh' (Kd.R_lt (Rt_ HO2.out)) k_ hk,Kd.fresh' (Kd.R_lt (Rt_ HO3.out)) k_ hk,Kd.fresh' (Kd.R_lt (Rt_ HO4.out)) k_ hk⟩));(case aO=>exact (Rt_ HO6.out));(case aS=>exact (below_size (bf HB)));(case aL=>have:=LMc0.out;omega);intro v6 w2 ho hb hg hat;rw [← Ny1.out] at ho;have n0:=am (Kd.R_after (ok:=(fun k_=>some k_≠(.slice (some ad1) t1.length co1:Value).ownBlock∧some k_≠(u7:Value).ownBlock)) (Rt_ (Kd.R_mono HO2.out (fun _ hk=>⟨⟨hk.1,hk.2.1⟩,hk.2.2⟩))) hg hat);have n1:=am (Kd.R_after (ok:=(fun k_=>some k_≠(.slice (some ad0) t0.length co0:Value).ownBlock∧some k_≠(u7:Value).ownBlock)) (Rt_ (Kd.R_mono HO3.out (fun _ hk=>⟨⟨hk.1,hk.2.1⟩,hk.2.2⟩))) hg hat);have n2:=am (Kd.R_after (ok:=(fun k_=>some k_≠(.slice (some ad0) t0.length co0:Value).ownBlock∧some k_≠(.slice (some ad1) t1.length co1:Value).ownBlock)) (Rt_ (Kd.R_mono HO4.out (fun _ hk=>⟨⟨hk.1,hk.2.1⟩,hk.2.2⟩))) hg hat);have n3:=am (hb);have n4:=am (ho);clear HO2;clear HO3;clear HO4;clear HB;clear HO6;have HO2:=n0;have HO3:=n1;have HO4:=n2;have HB:=n3;have HO7:=n4;clear n0 n1 n2 n3 n4;clear ho hb hg hat));try go_wp2_with (first|((with_reducible refine gate_builtin (b:=.append) (xs:=#[.tmp 38,.tmp 41]) rfl ?_);at_builtin;refine Kd.R_append (Kd.int .u64) (w0:=w) w.heap.size rfl (.tmp 38) (.tmp 41) 75 78 (.int .u64 0) 8 rfl Tryd.underlying75 info78 rfl (by decide) (by omega) u9 x2 (Int.tmod (IntKind.u64.wrap ((IntKind.u64.wrap ((rd t0 x1)*(rd t1 x4)))+x3)) 65536) [.int .u64 (Int.tmod (IntKind.u64.wrap ((IntKind.u64.wrap ((rd t0 x1)*(rd t1 x4)))+x3)) 65536)] (fun k_=>some k_≠(.slice (some ad0) t0.length co0:Value).ownBlock∧some k_≠(.slice (some ad1) t1.length co1:Value).ownBlock∧some k_≠(u7:Value).ownBlock) (fun _=>False) rfl rfl ?aP (fun _ hk=>hk.elim) ?aF ?aO ?aB ?aS ?aL ?_;(case aP=>exact rfl);(case aB=>exact (bf HB));(case aF=>exact (fun k_ hk=>⟨Kd.fresh' (Kd.R_lt (Rt_ HO2.out)) k_ hk,Kd.fresh' (Kd.R_lt (Rt_ HO3.out)) k_ hk,Kd.fresh' (Kd.R_lt (Rt_ HO4.out)) k_ hk⟩));(case aO=>exact (Rt_ HO6.out));(case aS=>exact (below_size (bf HB)));(case aL=>have:=LMc0.out;omega);intro v6 w2 ho hb hg hat;rw [← Ny1.out] at ho;have n0:=am (Kd.R_after (ok:=(fun k_=>some k_≠(.slice (some ad1) t1.length co1:Value).ownBlock∧some k_≠(u7:Value).ownBlock)) (Rt_ (Kd.R_mono HO2.out (fun _ hk=>⟨⟨hk.1,hk.2.1⟩,hk.2.2⟩))) hg hat);have n1:=am (Kd.R_after (ok:=(fun k_=>some k_≠(.slice (some ad0) t0.length co0:Value).ownBlock∧some k_≠(u7:Value).ownBlock)) (Rt_ (Kd.R_mono HO3.out (fun _ hk=>⟨⟨hk.1,hk.2.1⟩,hk.2.2⟩))) hg hat);have n2:=am (Kd.R_after (ok:=(fun k_=>some k_≠(.slice (some ad0) t0.length co0:Value).ownBlock∧some k_≠(.slice (some ad1) t1.length co1:Value).ownBlock)) (Rt_ (Kd.R_mono HO4.out (fun _ hk=>⟨⟨hk.1,hk.2.1⟩,hk.2.2⟩))) hg hat);have n3:=am (hb);have n4:=am (ho);clear HO2;clear HO3;clear HO4;clear HB;clear HO6;have HO2:=n0;have HO3:=n1;have HO4:=n2;have HB:=n3;have HO7:=n4;clear n0 n1 n2 n3 n4;clear ho hb hg hat)))
 go_roundg k2
 case measure=>have:=HK1.out;have:=HK2.out;omega
 case rel=>exact ⟨(y1),(IntKind.u64.wrap (Int.tdiv (IntKind.u64.wrap ((IntKind.u64.wrap ((rd t0 x1)*(rd t1 x4)))+x3)) 65536)),(wrap64 (x4+1)),(aq),(aq),H',⟨by have:=HK1.out;have:=HK2.out;omega⟩,⟨Rt_ (Kd.R_mono HO2.out (fun _ hk=>⟨hk.1.1,⟨hk.1.2,hk.2⟩⟩))⟩,⟨Rt_ (Kd.R_mono HO3.out (fun _ hk=>⟨hk.1.1,⟨hk.1.2,hk.2⟩⟩))⟩,⟨Rt_ (Kd.R_mono HO4.out (fun _ hk=>⟨hk.1.1,⟨hk.1.2,hk.2⟩⟩))⟩,⟨Rt_ HO7.out⟩,⟨bf HB⟩⟩};{
 rw [if_neg c17] at H
 exact absurd H (by simp)}};{
 rw [if_neg c16] at H
 exact absurd H (by simp)}};{
 rw [if_neg c15] at H
 exact absurd H (by simp)}};{
 rw [if_neg c14] at H
 exact absurd H (by simp)}};{
 rw [if_neg c13] at H
 exact absurd H (by simp)}};{
 rw [if_neg c6] at H
 have c10:decide (x4<4)=false:=decide_eq_false c6
 clear c6
 by_cases c21:x2.length<17592186044416;{
 rw [if_pos c21] at H
 have LMc1:=am c21
 clear c21
 obtain ⟨y2,hy2⟩:∃ y_:List Int,y_=(x2++[x3]):=⟨_,rfl⟩
 replace H:((carrefourref01_Plus.f k2 x0 y2).bind fun t2=>(carrefourref01_Times.l0 k2 t0 t1 t2 (wrap64 (x1+1))))=some r:=by first|(rw [hy2];with_reducible exact H)|(have H0:=(Option.bind_some _ _).symm.trans H;rw [hy2];with_reducible exact H0)|(have H0:=(Option.bind_some _ _).symm.trans H;with_reducible exact H0)|with_reducible exact H|(rw [hy2];exact H)|exact H
 have Ny2:=am hy2
 clear hy2
 replace H:=bi_ H;obtain ⟨t2,A0,H⟩:=H
 (try dsimp only at H)
 have H':=am H
 clear H
 go_wp2_with (first|((with_reducible refine gate_builtin (b:=.append) (xs:=#[.tmp 46,.tmp 48]) rfl ?_);at_builtin;refine Kd.R_append (Kd.int .u64) (w0:=w) w.heap.size rfl (.tmp 46) (.tmp 48) 75 78 (.int .u64 0) 8 rfl Tryd.underlying75 info78 rfl (by decide) (by omega) u9 x2 x3 [.int .u64 x3] (fun k_=>some k_≠(v1:Value).ownBlock∧some k_≠(v2:Value).ownBlock∧some k_≠(u7:Value).ownBlock) (fun _=>False) rfl rfl ?aP (fun _ hk=>hk.elim) ?aF ?aO ?aB ?aS ?aL ?_;(case aP=>exact rfl);(case aB=>exact (bf HB));(case aF=>exact (fun k_ hk=>⟨Kd.fresh' (Kd.R_lt (Rt_ HO2.out)) k_ hk,Kd.fresh' (Kd.R_lt (Rt_ HO3.out)) k_ hk,Kd.fresh' (Kd.R_lt (Rt_ HO4.out)) k_ hk⟩));(case aO=>exact (Rt_ HO6.out));(case aS=>exact (below_size (bf HB)));(case aL=>have:=LMc1.out;omega);intro v12 w3 ho hb hg hat;rw [← Ny2.out] at ho;have n0:=am (Kd.R_after (ok:=(fun k_=>some k_≠(v2:Value).ownBlock∧some k_≠(u7:Value).ownBlock)) (Rt_ (Kd.R_mono HO2.out (fun _ hk=>⟨⟨hk.1,hk.2.1⟩,hk.2.2⟩))) hg hat);have n1:=am (Kd.R_after (ok:=(fun k_=>some k_≠(v1:Value).ownBlock∧some k_≠(u7:Value).ownBlock)) (Rt_ (Kd.R_mono HO3.out (fun _ hk=>⟨⟨hk.1,hk.2.1⟩,hk.2.2⟩))) hg hat);have n2:=am (Kd.R_after (ok:=(fun k_=>some k_≠(v1:Value).ownBlock∧some k_≠(v2:Value).ownBlock)) (Rt_ (Kd.R_mono HO4.out (fun _ hk=>⟨⟨hk.1,hk.2.1⟩,hk.2.2⟩))) hg hat);have n3:=am (hb);have n4:=am (ho);clear HO2;clear HO3;clear HO4;clear HB;clear HO6;have HO2:=n0;have HO3:=n1;have HO4:=n2;have HB:=n3;have HO8:=n4;clear n0 n1 n2 n3 n4;clear ho hb hg hat;obtain ⟨Ao2,co2,eo2⟩:=Kd.R_slice HO4.out;subst eo2;obtain ⟨Ao3,co3,eo3⟩:=Kd.R_slice HO8.out;subst eo3)|(go_at_call 32;(with_reducible refine (carrefourref01_Plus.calls _ _ _ _ _ _ _ _ _ ?side1 ?side2 ?side3 ?side4 A0.out).mono ?_);(case side1=>repeat (first|exact (Kd.R_reads' HO4.out).2.2|(with_reducible refine Kd.C_alloc ?_ _)|(with_reducible refine Kd.C_drewN ?_ _)|(with_reducible refine Kd.C_drew ?_)));(case side2=>exact (Kd.R_reads' HO4.out).2.1);(case side3=>exact rc HO8);(case side4=>exact (Kd.R_reads' HO8.out).2.1);rintro e w4 ⟨v13,rfl,ho0,hb⟩;have HO9:=am (Kd.R_lower (Kd.R_new' (Kd.R_new' (Kd.R_new' (Kd.R_new' ho0 (Kd.R_lt (Rt_ HO2.out))) (Kd.R_lt (Rt_ HO3.out))) (Kd.R_lt (Rt_ HO4.out))) (rl HO8)) (below_size (bf HB)));replace HO2:=am (Kd.R_elder' (Rt_ HO2.out) (Kd.R_base ho0) hb);replace HO3:=am (Kd.R_elder' (Rt_ HO3.out) (Kd.R_base ho0) hb);replace HO4:=am (Kd.R_elder' (Rt_ HO4.out) (Kd.R_base ho0) hb);replace HO8:=re_ HO8 (Kd.R_base ho0) hb;replace HB:=bs HB hb;(try clear hb);(try clear ho0)))
 repeat (go_quiet (first|((with_reducible refine gate_builtin (b:=.append) (xs:=#[.tmp 46,.tmp 48]) rfl ?_);at_builtin;refine Kd.R_append (Kd.int .u64) (w0:=w) w.heap.size rfl (.tmp 46) (.tmp 48) 75 78 (.int .u64 0) 8 rfl Tryd.underlying75 info78 rfl (by decide) (by omega) u9 x2 x3 [.int .u64 x3] (fun k_=>some k_≠(v1:Value).ownBlock∧some k_≠(v2:Value).ownBlock∧some k_≠(u7:Value).ownBlock) (fun _=>False) rfl rfl ?aP (fun _ hk=>hk.elim) ?aF ?aO ?aB ?aS ?aL ?_;(case aP=>exact rfl);(case aB=>exact (bf HB));(case aF=>exact (fun k_ hk=>⟨Kd.fresh' (Kd.R_lt (Rt_ HO2.out)) k_ hk,Kd.fresh' (Kd.R_lt (Rt_ HO3.out)) k_ hk,Kd.fresh' (Kd.R_lt (Rt_ HO4.out)) k_ hk⟩));(case aO=>exact (Rt_ HO6.out));(case aS=>exact (below_size (bf HB)));(case aL=>have:=LMc1.out;omega);intro v12 w3 ho hb hg hat;rw [← Ny2.out] at ho;have n0:=am (Kd.R_after (ok:=(fun k_=>some k_≠(v2:Value).ownBlock∧some k_≠(u7:Value).ownBlock)) (Rt_ (Kd.R_mono HO2.out (fun _ hk=>⟨⟨hk.1,hk.2.1⟩,hk.2.2⟩))) hg hat);have n1:=am (Kd.R_after (ok:=(fun k_=>some k_≠(v1:Value).ownBlock∧some k_≠(u7:Value).ownBlock)) (Rt_ (Kd.R_mono HO3.out (fun _ hk=>⟨⟨hk.1,hk.2.1⟩,hk.2.2⟩))) hg hat);have n2:=am (Kd.R_after (ok:=(fun k_=>some k_≠(v1:Value).ownBlock∧some k_≠(v2:Value).ownBlock)) (Rt_ (Kd.R_mono HO4.out (fun _ hk=>⟨⟨hk.1,hk.2.1⟩,hk.2.2⟩))) hg hat);have n3:=am (hb);have n4:=am (ho);clear HO2;clear HO3;clear HO4;clear HB;clear HO6;have HO2:=n0;have HO3:=n1;have HO4:=n2;have HB:=n3;have HO8:=n4;clear n0 n1 n2 n3 n4;clear ho hb hg hat;obtain ⟨Ao2,co2,eo2⟩:=Kd.R_slice HO4.out;subst eo2;obtain ⟨Ao3,co3,eo3⟩:=Kd.R_slice HO8.out;subst eo3)|(go_at_call 32;(with_reducible refine (carrefourref01_Plus.calls _ _ _ _ _ _ _ _ _ ?side1 ?side2 ?side3 ?side4 A0.out).mono ?_);(case side1=>repeat (first|exact (Kd.R_reads' HO4.out).2.2|(with_reducible refine Kd.C_alloc ?_ _)|(with_reducible refine Kd.C_drewN ?_ _)|(with_reducible refine Kd.C_drew ?_)));(case side2=>exact (Kd.R_reads' HO4.out).2.1);(case side3=>exact rc HO8);(case side4=>exact (Kd.R_reads' HO8.out).2.1);rintro e w4 ⟨v13,rfl,ho0,hb⟩;have HO9:=am (Kd.R_lower (Kd.R_new' (Kd.R_new' (Kd.R_new' (Kd.R_new' ho0 (Kd.R_lt (Rt_ HO2.out))) (Kd.R_lt (Rt_ HO3.out))) (Kd.R_lt (Rt_ HO4.out))) (rl HO8)) (below_size (bf HB)));replace HO2:=am (Kd.R_elder' (Rt_ HO2.out) (Kd.R_base ho0) hb);replace HO3:=am (Kd.R_elder' (Rt_ HO3.out) (Kd.R_base ho0) hb);replace HO4:=am (Kd.R_elder' (Rt_ HO4.out) (Kd.R_base ho0) hb);replace HO8:=re_ HO8 (Kd.R_base ho0) hb;replace HB:=bs HB hb;(try clear hb);(try clear ho0)));try go_wp2_with (first|((with_reducible refine gate_builtin (b:=.append) (xs:=#[.tmp 46,.tmp 48]) rfl ?_);at_builtin;refine Kd.R_append (Kd.int .u64) (w0:=w) w.heap.size rfl (.tmp 46) (.tmp 48) 75 78 (.int .u64 0) 8 rfl Tryd.underlying75 info78 rfl (by decide) (by omega) u9 x2 x3 [.int .u64 x3] (fun k_=>some k_≠(v1:Value).ownBlock∧some k_≠(v2:Value).ownBlock∧some k_≠(u7:Value).ownBlock) (fun _=>False) rfl rfl ?aP (fun _ hk=>hk.elim) ?aF ?aO ?aB ?aS ?aL ?_;(case aP=>exact rfl);(case aB=>exact (bf HB));(case aF=>exact (fun k_ hk=>⟨Kd.fresh' (Kd.R_lt (Rt_ HO2.out)) k_ hk,Kd.fresh' (Kd.R_lt (Rt_ HO3.out)) k_ hk,Kd.fresh' (Kd.R_lt (Rt_ HO4.out)) k_ hk⟩));(case aO=>exact (Rt_ HO6.out));(case aS=>exact (below_size (bf HB)));(case aL=>have:=LMc1.out;omega);intro v12 w3 ho hb hg hat;rw [← Ny2.out] at ho;have n0:=am (Kd.R_after (ok:=(fun k_=>some k_≠(v2:Value).ownBlock∧some k_≠(u7:Value).ownBlock)) (Rt_ (Kd.R_mono HO2.out (fun _ hk=>⟨⟨hk.1,hk.2.1⟩,hk.2.2⟩))) hg hat);have n1:=am (Kd.R_after (ok:=(fun k_=>some k_≠(v1:Value).ownBlock∧some k_≠(u7:Value).ownBlock)) (Rt_ (Kd.R_mono HO3.out (fun _ hk=>⟨⟨hk.1,hk.2.1⟩,hk.2.2⟩))) hg hat);have n2:=am (Kd.R_after (ok:=(fun k_=>some k_≠(v1:Value).ownBlock∧some k_≠(v2:Value).ownBlock)) (Rt_ (Kd.R_mono HO4.out (fun _ hk=>⟨⟨hk.1,hk.2.1⟩,hk.2.2⟩))) hg hat);have n3:=am (hb);have n4:=am (ho);clear HO2;clear HO3;clear HO4;clear HB;clear HO6;have HO2:=n0;have HO3:=n1;have HO4:=n2;have HB:=n3;have HO8:=n4;clear n0 n1 n2 n3 n4;clear ho hb hg hat;obtain ⟨Ao2,co2,eo2⟩:=Kd.R_slice HO4.out;subst eo2;obtain ⟨Ao3,co3,eo3⟩:=Kd.R_slice HO8.out;subst eo3)|(go_at_call 32;(with_reducible refine (carrefourref01_Plus.calls _ _ _ _ _ _ _ _ _ ?side1 ?side2 ?side3 ?side4 A0.out).mono ?_);(case side1=>repeat (first|exact (Kd.R_reads' HO4.out).2.2|(with_reducible refine Kd.C_alloc ?_ _)|(with_reducible refine Kd.C_drewN ?_ _)|(with_reducible refine Kd.C_drew ?_)));(case side2=>exact (Kd.R_reads' HO4.out).2.1);(case side3=>exact rc HO8);(case side4=>exact (Kd.R_reads' HO8.out).2.1);rintro e w4 ⟨v13,rfl,ho0,hb⟩;have HO9:=am (Kd.R_lower (Kd.R_new' (Kd.R_new' (Kd.R_new' (Kd.R_new' ho0 (Kd.R_lt (Rt_ HO2.out))) (Kd.R_lt (Rt_ HO3.out))) (Kd.R_lt (Rt_ HO4.out))) (rl HO8)) (below_size (bf HB)));replace HO2:=am (Kd.R_elder' (Rt_ HO2.out) (Kd.R_base ho0) hb);replace HO3:=am (Kd.R_elder' (Rt_ HO3.out) (Kd.R_base ho0) hb);replace HO4:=am (Kd.R_elder' (Rt_ HO4.out) (Kd.R_base ho0) hb);replace HO8:=re_ HO8 (Kd.R_base ho0) hb;replace HB:=bs HB hb;(try clear hb);(try clear ho0))))
 go_roundg k2
 case measure=>have:=HK1.out;have:=HK2.out;omega
 case rel=>exact ⟨(t2),(wrap64 (x1+1)),(aq),H',⟨by have:=HK1.out;have:=HK2.out;omega⟩,⟨Rt_ (Kd.R_mono HO2.out (fun _ hk=>⟨hk.1.1.1,hk.2⟩))⟩,⟨Rt_ (Kd.R_mono HO3.out (fun _ hk=>⟨hk.1.1.1,hk.2⟩))⟩,⟨Rt_ (Kd.R_mono HO9.out (fun _ hk=>⟨hk.1.1.1.2,hk.1.1.2⟩))⟩,⟨bf HB⟩⟩};{
 rw [if_neg c21] at H
 exact absurd H (by simp)}}}}};{
 rw [if_neg c9] at H
 exact absurd H (by simp)}};{
 rw [if_neg c8] at H
 exact absurd H (by simp)}};{
 rw [if_neg c7] at H
 have c0:decide (x1<4)=false:=decide_eq_false c7
 clear c7
 obtain rfl:=Option.some.inj H
 go_wp2
 repeat (go_quiet (fail);try go_wp2)
 go_ret
 exact ⟨_,ae,by (with_reducible repeat (first|apply Kd.R_alloc|apply Kd.R_drewN|apply Kd.R_drew));exact Kd.R_mono HO4.out (fun _ hk=>trivial),bf HB⟩}}}
end Go.Proofs.YtenphnkiacfmiaaDoor.X
