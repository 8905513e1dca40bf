/- Walks: each '.calls' says that the Go function comes to what its Lean function tells. Conditions: as each theorem's head says. -/
import Derived.Test.YtenphnkiacfmiaaDoorXD
import Derived.Test.YtenphnkiacfmiaaDoorX0
import Derived.Test.YtenphnkiacfmiaaDoorX17
namespace Go.Proofs.YtenphnkiacfmiaaDoor.X
open Go.RowKit Go.Proofs.YtenphnkiacfmiaaDoorW.PrintWords Go.Proofs.YtenphnkiacfmiaaDoorW.PrintLast Go.Proofs.YtenphnkiacfmiaaDoorW.PrintMore
attribute [local go_sem] max2_int min2_int max_two min_two max_three min_three max_four min_four
set_option linter.unusedVariables false
set_option maxHeartbeats 8000000
set_option maxRecDepth 100000
set_option linter.unusedSimpArgs false
theorem carrefourref02_Right.calls (k:Nat) (a0:Int) (a1:Int) (r:Bool) (w:World) (h:carrefourref02_Right.f k a0 a1=some r) :
  Calls Tryd.prog 14 #[.agg #[.int .i64 a0,.int .i64 a1]] w fun e w'=>e=.returned (.bool r)∧Below w.heap.size w w':=by
 have hu0:=Tryd.underlying36
 have HB:=am (Below.refl w.heap.size w)
 have H:(if a1≥1 then ((carrefourref01_Size.f a0).bind fun t0=>((carrefourref02_gcd.f k t0 (IntKind.u64.wrap (a1))).bind fun t1=>(some (t1==1)))) else (some false))=some r:=h
 clear h
 by_cases c2:a1≥1;{
 rw [if_pos c2] at H
 have c0:decide (1≤a1)=true:=decide_eq_true c2
 clear c2
 replace H:=bi_ H;obtain ⟨t0,A3,H⟩:=H
 (try dsimp only at H)
 replace H:=bi_ H;obtain ⟨t1,A4,H⟩:=H
 (try dsimp only at H)
 obtain rfl:=Option.some.inj H
 go_enter Tryd.func14,Tryd.ntmps14
 go_wp2_with (first|((with_reducible refine gd 1 rfl ?_);refine bx_ 1 36 #[.int .i64 a0,.int .i64 a1] rfl rfl ?_;intro gb0 hg w5 BK0 hb;have GE0:=bz HB hg;replace HB:=bs HB hb;clear hb hg;have hcz6:=X.k2 BK0)|(go_at_call 30;(with_reducible refine (carrefourref01_Size.calls _ _ _ A3.out).mono ?_);rintro e w' ⟨rfl,⟨nd,rfl⟩⟩;(try first|exact ⟨rfl,_,World.drewN_drewN _ _ _⟩|exact ⟨rfl,_,Eq.trans (World.drewN_drewN _ _ _) (congrArg (World.drewN _) (Nat.add_assoc _ _ _))⟩))|(go_at_call 35;(with_reducible refine (carrefourref02_gcd.calls _ _ (IntKind.u64.wrap (a1)) _ _ A4.out).mono ?_);rintro e w' ⟨rfl,⟨nd,rfl⟩⟩;(try first|exact ⟨rfl,_,World.drewN_drewN _ _ _⟩|exact ⟨rfl,_,Eq.trans (World.drewN_drewN _ _ _) (congrArg (World.drewN _) (Nat.add_assoc _ _ _))⟩)))
 repeat (go_quiet (first|((with_reducible refine gd 1 rfl ?_);refine bx_ 1 36 #[.int .i64 a0,.int .i64 a1] rfl rfl ?_;intro gb0 hg w5 BK0 hb;have GE0:=bz HB hg;replace HB:=bs HB hb;clear hb hg;have hcz6:=X.k2 BK0)|(go_at_call 30;(with_reducible refine (carrefourref01_Size.calls _ _ _ A3.out).mono ?_);rintro e w' ⟨rfl,⟨nd,rfl⟩⟩;(try first|exact ⟨rfl,_,World.drewN_drewN _ _ _⟩|exact ⟨rfl,_,Eq.trans (World.drewN_drewN _ _ _) (congrArg (World.drewN _) (Nat.add_assoc _ _ _))⟩))|(go_at_call 35;(with_reducible refine (carrefourref02_gcd.calls _ _ (IntKind.u64.wrap (a1)) _ _ A4.out).mono ?_);rintro e w' ⟨rfl,⟨nd,rfl⟩⟩;(try first|exact ⟨rfl,_,World.drewN_drewN _ _ _⟩|exact ⟨rfl,_,Eq.trans (World.drewN_drewN _ _ _) (congrArg (World.drewN _) (Nat.add_assoc _ _ _))⟩)));try go_wp2_with (first|((with_reducible refine gd 1 rfl ?_);refine bx_ 1 36 #[.int .i64 a0,.int .i64 a1] rfl rfl ?_;intro gb0 hg w5 BK0 hb;have GE0:=bz HB hg;replace HB:=bs HB hb;clear hb hg;have hcz6:=X.k2 BK0)|(go_at_call 30;(with_reducible refine (carrefourref01_Size.calls _ _ _ A3.out).mono ?_);rintro e w' ⟨rfl,⟨nd,rfl⟩⟩;(try first|exact ⟨rfl,_,World.drewN_drewN _ _ _⟩|exact ⟨rfl,_,Eq.trans (World.drewN_drewN _ _ _) (congrArg (World.drewN _) (Nat.add_assoc _ _ _))⟩))|(go_at_call 35;(with_reducible refine (carrefourref02_gcd.calls _ _ (IntKind.u64.wrap (a1)) _ _ A4.out).mono ?_);rintro e w' ⟨rfl,⟨nd,rfl⟩⟩;(try first|exact ⟨rfl,_,World.drewN_drewN _ _ _⟩|exact ⟨rfl,_,Eq.trans (World.drewN_drewN _ _ _) (congrArg (World.drewN _) (Nat.add_assoc _ _ _))⟩))))
 go_ret
 exact ⟨ae,bf HB⟩};{
 rw [if_neg c2] at H
 have c0:decide (1≤a1)=false:=decide_eq_false c2
 clear c2
 obtain rfl:=Option.some.inj H
 go_enter Tryd.func14,Tryd.ntmps14
 go_wp2_with (first|((with_reducible refine gd 1 rfl ?_);refine bx_ 1 36 #[.int .i64 a0,.int .i64 a1] rfl rfl ?_;intro gb0 hg w7 BK0 hb;have GE0:=bz HB hg;replace HB:=bs HB hb;clear hb hg;have hcz8:=X.k2 BK0))
 repeat (go_quiet (first|((with_reducible refine gd 1 rfl ?_);refine bx_ 1 36 #[.int .i64 a0,.int .i64 a1] rfl rfl ?_;intro gb0 hg w7 BK0 hb;have GE0:=bz HB hg;replace HB:=bs HB hb;clear hb hg;have hcz8:=X.k2 BK0));try go_wp2_with (first|((with_reducible refine gd 1 rfl ?_);refine bx_ 1 36 #[.int .i64 a0,.int .i64 a1] rfl rfl ?_;intro gb0 hg w7 BK0 hb;have GE0:=bz HB hg;replace HB:=bs HB hb;clear hb hg;have hcz8:=X.k2 BK0)))
 go_ret
 exact ⟨ae,bf HB⟩}
theorem carrefourref02_Norm.calls (k:Nat) (a0:Int) (a1:Int) (r1:Int) (r2:Int) (w:World) (h:carrefourref02_Norm.f k a0 a1=some (r1,r2)) :
  Calls Tryd.prog 24 #[.agg #[.int .i64 a0,.int .i64 a1]] w fun e w'=>e=.returned (.agg #[.int .i64 r1,.int .i64 r2])∧Below w.heap.size w w':=by
 have hu0:=Tryd.underlying36
 have HB:=am (Below.refl w.heap.size w)
 have H:((carrefourref02_Right.f k a0 a1).bind fun t0=>(if t0=true then (some (a0,a1)) else (some (0,1))))=some (r1,r2):=h
 clear h
 replace H:=bi_ H;obtain ⟨t0,A2,H⟩:=H
 (try dsimp only at H)
 by_cases c3:t0=true;{
 subst c3
 have H1:(some (a0,a1))=some (r1,r2):=by rw [if_pos rfl] at H;exact H
 clear H
 have H:=H1
 clear H1
 simp only [Option.some.injEq,Prod.mk.injEq] at H
 obtain ⟨rfl,rfl⟩:=H
 go_enter Tryd.func24,Tryd.ntmps24
 go_wp2_with (first|((with_reducible refine gd 1 rfl ?_);refine bx_ 1 36 #[.int .i64 a0,.int .i64 a1] rfl rfl ?_;intro gb0 hg w4 BK0 hb;have GE0:=bz HB hg;replace HB:=bs HB hb;clear hb hg)|((with_reducible refine gd 2 rfl ?_);refine bx_ 2 36 #[.int .i64 0,.int .i64 0] rfl rfl ?_;intro gb1 hg w5 BK1 hb;have GE1:=bz HB hg;have ⟨NB0,NB1⟩:=nb BK0 hg;replace BK0:=bb BK0 hb;replace HB:=bs HB hb;clear hb hg;have hnb6:=nn NB0;have hcz7:=X.k2 BK0)|((with_reducible refine gc 14 rfl ?_);refine gm_ (some 4) rfl rfl Tryd.func14 (carrefourref02_Right.calls _ _ _ _ _ A2.out) ag ?_;intro w8 hb;replace BK0:=bb BK0 hb;replace BK1:=bb BK1 hb;replace HB:=bs HB hb;(try clear hb);have hcz9:=X.k2 BK0;have hcz0:=X.k2 BK1))
 refine bodyPost_ret (results_cell_row rfl _ _ gb1 36 #[.int .i64 a0,.int .i64 a1] (0,0) _ rfl (br_ BK1) Tryd.underlying36 rfl (by kernel_rfl)) rfl ?_
 exact ⟨ae,bf HB⟩};{
 replace c3:=Bool.eq_false_iff.mpr c3
 subst c3
 have H1:(some (0,1))=some (r1,r2):=by rw [if_neg (show ¬ (false=true) by decide)] at H;exact H
 clear H
 have H:=H1
 clear H1
 simp only [Option.some.injEq,Prod.mk.injEq] at H
 obtain ⟨rfl,rfl⟩:=H
 go_enter Tryd.func24,Tryd.ntmps24
 go_wp2_with (first|((with_reducible refine gd 1 rfl ?_);refine bx_ 1 36 #[.int .i64 a0,.int .i64 a1] rfl rfl ?_;intro gb0 hg w0 BK0 hb;have GE0:=bz HB hg;replace HB:=bs HB hb;clear hb hg)|((with_reducible refine gd 2 rfl ?_);refine bx_ 2 36 #[.int .i64 0,.int .i64 0] rfl rfl ?_;intro gb1 hg w1 BK1 hb;have GE1:=bz HB hg;have ⟨NB0,NB1⟩:=nb BK0 hg;replace BK0:=bb BK0 hb;replace HB:=bs HB hb;clear hb hg;have hnb0:=nn NB0;have hcz1:=X.k2 BK0)|((with_reducible refine gc 14 rfl ?_);refine gm_ (some 4) rfl rfl Tryd.func14 (carrefourref02_Right.calls _ _ _ _ _ A2.out) ag ?_;intro w2 hb;replace BK1:=bb BK1 hb;replace HB:=bs HB hb;(try clear hb);have hcz2:=X.k2 BK1))
 refine bodyPost_ret (results_cell_row rfl _ _ gb1 36 #[.int .i64 0,.int .i64 1] (0,0) _ rfl (br_ BK1) Tryd.underlying36 rfl (by kernel_rfl)) rfl ?_
 exact ⟨ae,bf HB⟩}
theorem carrefourref02_few.calls (a0:Int) (a1:Int) (a2:Int) (a3:Int) (r:Bool) (w:World) (h:carrefourref02_few.f a0 a1 a2 a3=some r) :
  Calls Tryd.prog 26 #[.agg #[.int .i64 a0,.int .i64 a1],.agg #[.int .i64 a2,.int .i64 a3]] w fun e w'=>e=.returned (.bool r)∧Below w.heap.size w w':=by
 have hu0:=Tryd.underlying36
 have HB:=am (Below.refl w.heap.size w)
 have H:((carrefourref01_Size.f a0).bind fun t0=>(if t0<1073741824 then ((carrefourref01_Size.f a2).bind fun t1=>(if t1<1073741824 then (if a1<1073741824 then (some (decide (a3<1073741824))) else (some false)) else (some false))) else (some false)))=some r:=h
 clear h
 replace H:=bi_ H;obtain ⟨t0,A3,H⟩:=H
 (try dsimp only at H)
 by_cases c4:t0<1073741824;{
 rw [if_pos c4] at H
 have c0:decide (t0<1073741824)=true:=decide_eq_true c4
 clear c4
 replace H:=bi_ H;obtain ⟨t1,A5,H⟩:=H
 (try dsimp only at H)
 by_cases c6:t1<1073741824;{
 rw [if_pos c6] at H
 have c1:decide (t1<1073741824)=true:=decide_eq_true c6
 clear c6
 by_cases c7:a1<1073741824;{
 rw [if_pos c7] at H
 have c2:decide (a1<1073741824)=true:=decide_eq_true c7
 clear c7
 obtain rfl:=Option.some.inj H
 go_enter Tryd.func26,Tryd.ntmps26
 go_wp2_with (first|((with_reducible refine gd 2 rfl ?_);refine bx_ 2 36 #[.int .i64 a0,.int .i64 a1] rfl rfl ?_;intro gb0 hg w8 BK0 hb;have GE0:=bz HB hg;replace HB:=bs HB hb;clear hb hg)|((with_reducible refine gd 3 rfl ?_);refine bx_ 3 36 #[.int .i64 a2,.int .i64 a3] rfl rfl ?_;intro gb1 hg w9 BK1 hb;have GE1:=bz HB hg;have ⟨NB0,NB1⟩:=nb BK0 hg;replace BK0:=bb BK0 hb;replace HB:=bs HB hb;clear hb hg;have hnb0:=nn NB0;have hcz0:=X.k2 BK0)|((with_reducible refine gc 30 rfl ?_);refine gm_ (some 7) rfl rfl Tryd.func30 (carrefourref01_Size.calls _ _ _ A3.out) ag ?_;rintro w' ⟨nd,rfl⟩;have hcz1:=X.k2 BK1)|(go_at_call 30;(with_reducible refine (carrefourref01_Size.calls _ _ _ A5.out).mono ?_);rintro e w' ⟨rfl,⟨nd,rfl⟩⟩))
 go_ret
 exact ⟨ae,bf HB⟩};{
 rw [if_neg c7] at H
 have c2:decide (a1<1073741824)=false:=decide_eq_false c7
 clear c7
 obtain rfl:=Option.some.inj H
 go_enter Tryd.func26,Tryd.ntmps26
 go_wp2_with (first|((with_reducible refine gd 2 rfl ?_);refine bx_ 2 36 #[.int .i64 a0,.int .i64 a1] rfl rfl ?_;intro gb0 hg w0 BK0 hb;have GE0:=bz HB hg;replace HB:=bs HB hb;clear hb hg)|((with_reducible refine gd 3 rfl ?_);refine bx_ 3 36 #[.int .i64 a2,.int .i64 a3] rfl rfl ?_;intro gb1 hg w1 BK1 hb;have GE1:=bz HB hg;have ⟨NB0,NB1⟩:=nb BK0 hg;replace BK0:=bb BK0 hb;replace HB:=bs HB hb;clear hb hg;have hnb1:=nn NB0;have hcz2:=X.k2 BK0)|((with_reducible refine gc 30 rfl ?_);refine gm_ (some 7) rfl rfl Tryd.func30 (carrefourref01_Size.calls _ _ _ A3.out) ag ?_;rintro w' ⟨nd,rfl⟩;have hcz3:=X.k2 BK1)|(go_at_call 30;(with_reducible refine (carrefourref01_Size.calls _ _ _ A5.out).mono ?_);rintro e w' ⟨rfl,⟨nd,rfl⟩⟩))
 go_ret
 exact ⟨ae,bf HB⟩}};{
 rw [if_neg c6] at H
 have c1:decide (t1<1073741824)=false:=decide_eq_false c6
 clear c6
 obtain rfl:=Option.some.inj H
 go_enter Tryd.func26,Tryd.ntmps26
 go_wp2_with (first|((with_reducible refine gd 2 rfl ?_);refine bx_ 2 36 #[.int .i64 a0,.int .i64 a1] rfl rfl ?_;intro gb0 hg w2 BK0 hb;have GE0:=bz HB hg;replace HB:=bs HB hb;clear hb hg)|((with_reducible refine gd 3 rfl ?_);refine bx_ 3 36 #[.int .i64 a2,.int .i64 a3] rfl rfl ?_;intro gb1 hg w3 BK1 hb;have GE1:=bz HB hg;have ⟨NB0,NB1⟩:=nb BK0 hg;replace BK0:=bb BK0 hb;replace HB:=bs HB hb;clear hb hg;have hnb2:=nn NB0;have hcz4:=X.k2 BK0)|((with_reducible refine gc 30 rfl ?_);refine gm_ (some 7) rfl rfl Tryd.func30 (carrefourref01_Size.calls _ _ _ A3.out) ag ?_;rintro w' ⟨nd,rfl⟩;have hcz5:=X.k2 BK1)|(go_at_call 30;(with_reducible refine (carrefourref01_Size.calls _ _ _ A5.out).mono ?_);rintro e w' ⟨rfl,⟨nd,rfl⟩⟩))
 go_ret
 exact ⟨ae,bf HB⟩}};{
 rw [if_neg c4] at H
 have c0:decide (t0<1073741824)=false:=decide_eq_false c4
 clear c4
 obtain rfl:=Option.some.inj H
 go_enter Tryd.func26,Tryd.ntmps26
 go_wp2_with (first|((with_reducible refine gd 2 rfl ?_);refine bx_ 2 36 #[.int .i64 a0,.int .i64 a1] rfl rfl ?_;intro gb0 hg w4 BK0 hb;have GE0:=bz HB hg;replace HB:=bs HB hb;clear hb hg)|((with_reducible refine gd 3 rfl ?_);refine bx_ 3 36 #[.int .i64 a2,.int .i64 a3] rfl rfl ?_;intro gb1 hg w5 BK1 hb;have GE1:=bz HB hg;have ⟨NB0,NB1⟩:=nb BK0 hg;replace BK0:=bb BK0 hb;replace HB:=bs HB hb;clear hb hg;have hnb3:=nn NB0;have hcz6:=X.k2 BK0)|((with_reducible refine gc 30 rfl ?_);refine gm_ (some 7) rfl rfl Tryd.func30 (carrefourref01_Size.calls _ _ _ A3.out) ag ?_;rintro w' ⟨nd,rfl⟩))
 go_ret
 exact ⟨ae,bf HB⟩}
theorem carrefourref02_trim.calls (k:Nat) (A0:Option Addr) (c0:Nat) (l0:List Int) (r:List Int) (w:World) (hr0:Kd.C (Kd.int .u64) w A0 l0.length l0) (hc0:l0.length≤c0) (h:carrefourref02_trim.f k l0=some r) :
  Calls Tryd.prog 28 #[.slice A0 l0.length c0] w fun e w'=>∃ v0:Value,e=.returned (v0)∧Kd.R (Kd.int .u64) 78 w' w.heap.size (fun _=>True) v0 r∧Below w.heap.size w w':=by
 have HR0:=am hr0
 have HC0:=am hc0
 clear hr0 hc0
 have HB:=am (Below.refl w.heap.size w)
 have H:(carrefourref02_trim.l0 k l0 (l0.length:Int))=some r:=h
 clear h
 have H':=am H
 clear H
 go_enter Tryd.func28,Tryd.ntmps28
 go_wp2
 go_loopg [3] k (fun kq v3 w'=>∃ (x0:Int),v3=.int .i64 x0∧Aside0 (carrefourref02_trim.l0 kq l0 x0=some r)∧Aside0 (kq≤k)∧Aside0 (Below w.heap.size w w'))
 case atStart=>exact ⟨((l0.length:Int)),(aq),H',⟨Nat.le_refl _⟩,⟨bf HB⟩⟩
 case round =>skip;{
 clear H'
 obtain ⟨x0,rfl,HA,HK1,HB⟩:=hrel
 cases gk with
 | zero=>exact absurd HA.out (by simp [carrefourref02_trim.l0])
 | succ k1 =>skip;{
 have H:=HA.out
 clear HA
 simp only [carrefourref02_trim.l0] at H
 by_cases c2:x0>0;{
 rw [if_pos c2] at H
 have c1:decide (0<x0)=true:=decide_eq_true c2
 clear c2
 obtain ⟨ji3,hji3⟩:∃ j_:Int,(wrap64 (x0-1))=j_:=⟨_,rfl⟩
 replace H:(if 0≤(ji3) then (if (ji3)<(l0.length:Int) then (if (rd l0 (ji3))=0 then (carrefourref02_trim.l0 k1 l0 ji3) else ((some (([]:List Int):List Int)).bind fun y0=>(if 0≤x0 then (if x0≤(l0.length:Int) then (if y0.length+(l0.take (x0:Int).toNat).length<17592186044416 then (some (y0++(l0.take (x0:Int).toNat))) else (none)) else (none)) else (none)))) else (none)) else (none))=some r:=by first|(rw [hji3] at H;exact H)|(simp only [hji3] at H ⊢;exact H)
 have hji3w:(IntKind.i64.wrap (x0-1))=ji3:=(i64_w _).trans hji3
 by_cases c4:0≤(ji3);{
 rw [if_pos c4] at H
 have c3:decide (0≤(ji3))=true:=decide_eq_true c4
 clear c4
 by_cases c5:(ji3)<(l0.length:Int);{
 rw [if_pos c5] at H
 have c10:decide ((ji3)<(l0.length:Int))=true:=decide_eq_true c5
 clear c5
 by_cases c6:(rd l0 (ji3))=0;{
 rw [if_pos c6] at H
 have c11:((rd l0 (ji3))==0)=true:=beq_iff_eq.mpr c6
 have c12:((rd l0 (ji3)) != 0)=false:=bne_eq_false_iff_eq.mpr c6
 clear c6
 have H':=am H
 clear H
 have p0:0≤((ji3):Int):=od_
 have q0:(ji3)<(l0.length:Int):=od_
 obtain ⟨ad0,e0,hx0⟩:=Kd.at_int HR0.out (ji3) p0 q0
 cases e0
 replace hx0:=hx_ HB hx0
 replace p0:=eq_true p0
 replace q0:=eq_true q0
 go_wp2
 go_roundg k1
 case measure=>have:=HK1.out;omega
 case rel=>exact ⟨(ji3),(by first|rfl|(simp;done)|(simp only [← hji3]<;>(first|rfl|simp))|(simp [*];done)),H',⟨by have:=HK1.out;omega⟩,⟨bf HB⟩⟩};{
 rw [if_neg c6] at H
 have c11:((rd l0 (ji3))==0)=false:=beq_eq_false_iff_ne.mpr c6
 have c12:((rd l0 (ji3)) != 0)=true:=bne_iff_ne.mpr c6
 obtain ⟨y0,hy0⟩:∃ y_:List Int,y_=(([]:List Int)):=⟨_,rfl⟩
 replace H:(if 0≤x0 then (if x0≤(l0.length:Int) then (if y0.length+(l0.take (x0:Int).toNat).length<17592186044416 then (some (y0++(l0.take (x0:Int).toNat))) else (none)) else (none)) else (none))=some r:=by first|(rw [hy0];with_reducible exact H)|(have H0:=(Option.bind_some _ _).symm.trans H;rw [hy0];with_reducible exact H0)|(have H0:=(Option.bind_some _ _).symm.trans H;with_reducible exact H0)|with_reducible exact H|(rw [hy0];exact H)|exact H
 have Ny0:=am hy0
 clear hy0
 by_cases c7:0≤x0;{
 rw [if_pos c7] at H
 have c13:=eq_true c7
 have c17:decide (0≤x0)=true:=decide_eq_true c7
 clear c7
 by_cases c8:x0≤(l0.length:Int);{
 rw [if_pos c8] at H
 have c18:=eq_true c8
 have c19:decide (x0≤(l0.length:Int))=true:=decide_eq_true c8
 clear c8
 by_cases c9:y0.length+(l0.take (x0:Int).toNat).length<17592186044416;{
 rw [if_pos c9] at H
 have LMc9:=am c9
 clear c9
 obtain ⟨y1,hy1⟩:∃ y_:List Int,y_=(y0++(l0.take (x0:Int).toNat)):=⟨_,rfl⟩
 replace H:(some y1)=some r:=by first|(rw [hy1];with_reducible exact H)|(have H0:=(Option.bind_some _ _).symm.trans H;rw [hy1];with_reducible exact H0)|(have H0:=(Option.bind_some _ _).symm.trans H;with_reducible exact H0)|with_reducible exact H|(rw [hy1];exact H)|exact H
 have Ny1:=am hy1
 clear hy1
 obtain rfl:=Option.some.inj H
 have p0:0≤((ji3):Int):=od_
 have q0:(ji3)<(l0.length:Int):=od_
 obtain ⟨ad0,e0,hx0⟩:=Kd.at_int HR0.out (ji3) p0 q0
 cases e0
 replace hx0:=hx_ HB hx0
 replace p0:=eq_true p0
 replace q0:=eq_true q0
 go_wp2_with (first|((with_reducible refine gate_dst (N:=18) rfl ?_);refine Kd.R_lit (Kd.int .u64) _ 78 ?hg (N:=18) ?hd (xs:=([]:List Int)) (inner:=[]) (ok:=fun _=>True) (okp:=fun _=>True) ?hr ?hp (fun _ hk=>hk) trivial (Below.refl _ _) (Nat.le_refl _) (by simp) ?_;(case hd=>rfl);(case hg=>rfl);(case hr=>first|(go_simp;done)|(go_simp;rfl));(case hp=>exact (Reps.none _ _));intro v1 w1 ho0 hb hg_ hnew_;clear hg_ hnew_;(first|rw [← Ny0.out] at ho0|(simp only [Int.reduceToNat] at ho0;rw [← Ny0.out] at ho0));have HO0:=am (Kd.R_lower ho0 (below_size (bf HB)));replace HB:=bs HB hb;clear hb ho0;obtain ⟨i012,hi0,_,hsz0,_⟩:=info_parts info78;obtain ⟨hcut0,hA0,hC0⟩:=print_take_of (P:=Tryd.prog) (Value.int .u64) 0 75 78 .i64 Tryd.underlying75 hi0 hsz0 (some ad0) c0 l0 x0 (od_) (od_) HC0.out;have HR1:=am (Kd.C_of_reads (h1:=fun _=>rfl) (hA0 _ (Kd.reads_of_C HR0.out)));have HC1:=am hC0;clear hA0 hC0 hi0 hsz0)|((with_reducible refine gate_builtin (b:=.append) (xs:=#[.tmp 18,.tmp 21]) rfl ?_);at_builtin;refine Kd.R_append_rows (Kd.int .u64) (w0:=w) w.heap.size rfl (.tmp 18) (.tmp 21) 75 78 (.int .u64 0) 8 rfl Tryd.underlying75 info78 rfl (by decide) (by omega) v1 y0 (l0.take (x0:Int).toNat) _ _ _ (fun _=>True) (fun _=>False) rfl rfl ?aO ?aR (fun _ _ h=>h) (fun _ h=>h.elim) ?aF ?aB ?aS ?aL ?_;(case aR=>first|(refine cl_ (show (l0.take (x0:Int).toNat).length=x0.toNat from (by rw [List.length_take];have h_:(x0:Int)≤(l0.length:Int):=od_;omega)) ?_;repeat (first|exact (Kd.C_below HR1.out HB.out)|(with_reducible refine Kd.C_alloc ?_ _)|(with_reducible refine Kd.C_drewN ?_ _)|(with_reducible refine Kd.C_drew ?_)))|(repeat (first|exact (Kd.C_below HR1.out HB.out)|(with_reducible refine Kd.C_alloc ?_ _)|(with_reducible refine Kd.C_drewN ?_ _)|(with_reducible refine Kd.C_drew ?_))));(case aB=>exact (bf HB));(case aF=>exact (fun _ _=>trivial));(case aO=>exact (Rt_ HO0.out));(case aS=>exact (below_size (bf HB)));(case aL=>have:=LMc9.out;have hlx_:=(show (l0.take (x0:Int).toNat).length=x0.toNat from (by rw [List.length_take];have h_:(x0:Int)≤(l0.length:Int):=od_;omega));omega);intro v2 w2 ho hb hg hat;rw [← Ny1.out] at ho;have n0:=am (hb);have n1:=am (ho);clear HB;clear HO0;have HB:=n0;have HO1:=n1;clear n0 n1;clear ho hb hg hat))
 go_ret
 exact ⟨_,by first|rfl|(simp [errW_none,errW_some]<;>rfl)|(simp only [← hji3];first|rfl|(simp [errW_none,errW_some]<;>rfl))|(simp [*,errW_none,errW_some]<;>rfl),by (with_reducible repeat (first|apply Kd.R_alloc|apply Kd.R_drewN|apply Kd.R_drew));exact HO1.out,bf HB⟩};{
 rw [if_neg c9] at H
 exact absurd H (by simp)}};{
 rw [if_neg c8] at H
 exact absurd H (by simp)}};{
 rw [if_neg c7] at H
 exact absurd H (by simp)}}};{
 rw [if_neg c5] at H
 exact absurd H (by simp)}};{
 rw [if_neg c4] at H
 exact absurd H (by simp)}};{
 rw [if_neg c2] at H
 have c1:decide (0<x0)=false:=decide_eq_false c2
 clear c2
 obtain ⟨y2,hy2⟩:∃ y_:List Int,y_=(([]:List Int)):=⟨_,rfl⟩
 replace H:(if 0≤x0 then (if x0≤(l0.length:Int) then (if y2.length+(l0.take (x0:Int).toNat).length<17592186044416 then (some (y2++(l0.take (x0:Int).toNat))) else (none)) else (none)) else (none))=some r:=by first|(rw [hy2];with_reducible exact H)|(have H0:=(Option.bind_some _ _).symm.trans H;rw [hy2];with_reducible exact H0)|(have H0:=(Option.bind_some _ _).symm.trans H;with_reducible exact H0)|with_reducible exact H|(rw [hy2];exact H)|exact H
 have Ny2:=am hy2
 clear hy2
 by_cases c14:0≤x0;{
 rw [if_pos c14] at H
 have c21:=eq_true c14
 have c22:decide (0≤x0)=true:=decide_eq_true c14
 clear c14
 by_cases c15:x0≤(l0.length:Int);{
 rw [if_pos c15] at H
 have c24:=eq_true c15
 have c25:decide (x0≤(l0.length:Int))=true:=decide_eq_true c15
 clear c15
 by_cases c16:y2.length+(l0.take (x0:Int).toNat).length<17592186044416;{
 rw [if_pos c16] at H
 have LMc0:=am c16
 clear c16
 obtain ⟨y3,hy3⟩:∃ y_:List Int,y_=(y2++(l0.take (x0:Int).toNat)):=⟨_,rfl⟩
 replace H:(some y3)=some r:=by first|(rw [hy3];with_reducible exact H)|(have H0:=(Option.bind_some _ _).symm.trans H;rw [hy3];with_reducible exact H0)|(have H0:=(Option.bind_some _ _).symm.trans H;with_reducible exact H0)|with_reducible exact H|(rw [hy3];exact H)|exact H
 have Ny3:=am hy3
 clear hy3
 obtain rfl:=Option.some.inj H
 go_wp2_with (first|((with_reducible refine gate_dst (N:=18) rfl ?_);refine Kd.R_lit (Kd.int .u64) _ 78 ?hg (N:=18) ?hd (xs:=([]:List Int)) (inner:=[]) (ok:=fun _=>True) (okp:=fun _=>True) ?hr ?hp (fun _ hk=>hk) trivial (Below.refl _ _) (Nat.le_refl _) (by simp) ?_;(case hd=>rfl);(case hg=>rfl);(case hr=>first|(go_simp;done)|(go_simp;rfl));(case hp=>exact (Reps.none _ _));intro v4 w3 ho1 hb hg_ hnew_;clear hg_ hnew_;(first|rw [← Ny2.out] at ho1|(simp only [Int.reduceToNat] at ho1;rw [← Ny2.out] at ho1));have HO2:=am (Kd.R_lower ho1 (below_size (bf HB)));replace HB:=bs HB hb;clear hb ho1;obtain ⟨i019,hi1,_,hsz1,_⟩:=info_parts info78;obtain ⟨hcut1,hA1,hC1⟩:=print_take_of (P:=Tryd.prog) (Value.int .u64) 0 75 78 .i64 Tryd.underlying75 hi1 hsz1 A0 c0 l0 x0 (od_) (od_) HC0.out;have HR2:=am (Kd.C_of_reads (h1:=fun _=>rfl) (hA1 _ (Kd.reads_of_C HR0.out)));have HC2:=am hC1;clear hA1 hC1 hi1 hsz1)|((with_reducible refine gate_builtin (b:=.append) (xs:=#[.tmp 18,.tmp 21]) rfl ?_);at_builtin;refine Kd.R_append_rows (Kd.int .u64) (w0:=w) w.heap.size rfl (.tmp 18) (.tmp 21) 75 78 (.int .u64 0) 8 rfl Tryd.underlying75 info78 rfl (by decide) (by omega) v4 y2 (l0.take (x0:Int).toNat) _ _ _ (fun _=>True) (fun _=>False) rfl rfl ?aO ?aR (fun _ _ h=>h) (fun _ h=>h.elim) ?aF ?aB ?aS ?aL ?_;(case aR=>first|(refine cl_ (show (l0.take (x0:Int).toNat).length=x0.toNat from (by rw [List.length_take];have h_:(x0:Int)≤(l0.length:Int):=od_;omega)) ?_;repeat (first|exact (Kd.C_below HR2.out HB.out)|(with_reducible refine Kd.C_alloc ?_ _)|(with_reducible refine Kd.C_drewN ?_ _)|(with_reducible refine Kd.C_drew ?_)))|(repeat (first|exact (Kd.C_below HR2.out HB.out)|(with_reducible refine Kd.C_alloc ?_ _)|(with_reducible refine Kd.C_drewN ?_ _)|(with_reducible refine Kd.C_drew ?_))));(case aB=>exact (bf HB));(case aF=>exact (fun _ _=>trivial));(case aO=>exact (Rt_ HO2.out));(case aS=>exact (below_size (bf HB)));(case aL=>have:=LMc0.out;have hlx_:=(show (l0.take (x0:Int).toNat).length=x0.toNat from (by rw [List.length_take];have h_:(x0:Int)≤(l0.length:Int):=od_;omega));omega);intro v5 w4 ho hb hg hat;rw [← Ny3.out] at ho;have n0:=am (hb);have n1:=am (ho);clear HB;clear HO2;have HB:=n0;have HO3:=n1;clear n0 n1;clear ho hb hg hat))
 go_ret
 exact ⟨_,ae,by (with_reducible repeat (first|apply Kd.R_alloc|apply Kd.R_drewN|apply Kd.R_drew));exact HO3.out,bf HB⟩};{
 rw [if_neg c16] at H
 exact absurd H (by simp)}};{
 rw [if_neg c15] at H
 exact absurd H (by simp)}};{
 rw [if_neg c14] at H
 exact absurd H (by simp)}}}}
theorem carrefourref01_Plus.calls (k:Nat) (A0:Option Addr) (c0:Nat) (l0:List Int) (A1:Option Addr) (c1:Nat) (l1:List Int) (r:List Int) (w:World) (hr0:Kd.C (Kd.int .u64) w A0 l0.length l0) (hc0:l0.length≤c0) (hr1:Kd.C (Kd.int .u64) w A1 l1.length l1) (hc1:l1.length≤c1) (h:carrefourref01_Plus.f k l0 l1=some r) :
  Calls Tryd.prog 32 #[.slice A0 l0.length c0,.slice A1 l1.length c1] w fun e w'=>∃ v0:Value,e=.returned (v0)∧Kd.R (Kd.int .u64) 78 w' w.heap.size (fun _=>True) v0 r∧Below w.heap.size w w':=by
 have HR0:=am hr0
 have HC0:=am hc0
 clear hr0 hc0
 have HR1:=am hr1
 have HC1:=am hc1
 clear hr1 hc1
 have HB:=am (Below.refl w.heap.size w)
 have H:(carrefourref01_Plus.l0 k l0 l1 ([]:List Int) 0 0)=some r:=h
 clear h
 have H':=am H
 clear H
 go_enter Tryd.func32,Tryd.ntmps32
 go_wp2
 go_loopg [5,6,7] k (fun kq v5 v6 v7 w'=>∃ (x0:List Int) (x1:Int) (x2:Int),v6=.int .u64 x1∧v7=.int .i64 x2∧Aside0 (carrefourref01_Plus.l0 kq l0 l1 x0 x1 x2=some r)∧Aside0 (kq≤k)∧Aside0 (Kd.R (Kd.int .u64) 78 w' w.heap.size (fun _=>True) v5 x0)∧Aside0 (Below w.heap.size w w'))
 case atStart=>exact ⟨(([]:List Int)),(0),(0),(aq),(aq),H',⟨Nat.le_refl _⟩,⟨by first|exact Kd.R_nil _ _ _ _ _|exact Kd.N_nil _ _ _ _ _|exact Kd.V_nil _ _ _ _ _|exact Kd.Q_nil _ _ _ _ _|exact Kd.S_nil _ _ _ _ _⟩,⟨bf HB⟩⟩
 case round =>skip;{
 clear H'
 (try clear c1);(try clear p2)
 obtain ⟨x0,x1,x2,rfl,rfl,HA,HK1,HO0,HB⟩:=hrel
 cases gk with
 | zero=>exact absurd HA.out (by simp [carrefourref01_Plus.l0])
 | succ k1 =>skip;{
 have H:=HA.out
 clear HA
 simp only [carrefourref01_Plus.l0] at H
 have HC3:=am H
 clear H
 go_upto_region 4 with (fail)
 go_cut [22] (fun v1 wc=>∃ (kq:Nat) (x3:Bool),v1=.bool x3∧Aside0 (carrefourref01_Plus.j1 kq l0 l1 x0 x1 x2 x3=some r)∧Aside0 (kq≤k1)∧Aside0 (Kd.R (Kd.int .u64) 78 wc w.heap.size (fun _=>True) u5 x0)∧Aside0 (Below w.heap.size w wc))
 case first =>skip;{
 have H:=HC3.out
 clear HC3
 by_cases c4:x2<(l0.length:Int);{
 rw [if_pos c4] at H
 have c2:decide (x2<(l0.length:Int))=true:=decide_eq_true c4
 clear c4
 (first|rw [c2]|(simp only [i64_w,i32_w];rw [c2])|skip)
 have H':=am H
 clear H
 go_wp2
 go_meet
 case rel=>exact ⟨_,(true),(aq),H',⟨by have:=HK1.out;first|omega|exact Nat.le_refl _⟩,⟨Rt_ HO0.out⟩,⟨bf HB⟩⟩};{
 rw [if_neg c4] at H
 have c2:decide (x2<(l0.length:Int))=false:=decide_eq_false c4
 clear c4
 (first|rw [c2]|(simp only [i64_w,i32_w];rw [c2])|skip)
 by_cases c5:x2<(l1.length:Int);{
 rw [if_pos c5] at H
 have c11:decide (x2<(l1.length:Int))=true:=decide_eq_true c5
 clear c5
 have H':=am H
 clear H
 go_wp2
 go_meet
 case rel=>exact ⟨_,(true),(aq),H',⟨by have:=HK1.out;first|omega|exact Nat.le_refl _⟩,⟨Rt_ HO0.out⟩,⟨bf HB⟩⟩};{
 rw [if_neg c5] at H
 have c11:decide (x2<(l1.length:Int))=false:=decide_eq_false c5
 clear c5
 have H':=am H
 clear H
 go_wp2
 go_meet
 case rel=>exact ⟨_,(decide (x1>0)),(aq),H',⟨by have:=HK1.out;first|omega|exact Nat.le_refl _⟩,⟨Rt_ HO0.out⟩,⟨bf HB⟩⟩}}}
 case rest =>skip;{
 clear HC3
 (try clear c1);(try clear p2);(try clear c3);(try clear c4);(try clear c2);(try clear c5);(try clear c11);(try clear p2)
 obtain ⟨kq,x3,rfl,HA,HJ2,HO0,HB⟩:=hcut
 cases kq with
 | zero=>exact absurd HA.out (by simp [carrefourref01_Plus.j1])
 | succ kj2 =>skip;{
 have H:=HA.out
 clear HA
 simp only [carrefourref01_Plus.j1] at H
 by_cases c6:x3=true;{
 subst c6
 have H1:(if x2<(l0.length:Int) then (if 0≤x2 then (if x2<(l1.length:Int) then (if x0.length<17592186044416 then (carrefourref01_Plus.l0 kj2 l0 l1 (x0++[Int.tmod (IntKind.u64.wrap ((IntKind.u64.wrap (x1+(rd l0 x2)))+(rd l1 x2))) 65536]) (IntKind.u64.wrap (Int.tdiv (IntKind.u64.wrap ((IntKind.u64.wrap (x1+(rd l0 x2)))+(rd l1 x2))) 65536)) (wrap64 (x2+1))) else (none)) else (if x0.length<17592186044416 then (carrefourref01_Plus.l0 kj2 l0 l1 (x0++[Int.tmod (IntKind.u64.wrap (x1+(rd l0 x2))) 65536]) (IntKind.u64.wrap (Int.tdiv (IntKind.u64.wrap (x1+(rd l0 x2))) 65536)) (wrap64 (x2+1))) else (none))) else (none)) else (if x2<(l1.length:Int) then (if 0≤x2 then (if x0.length<17592186044416 then (carrefourref01_Plus.l0 kj2 l0 l1 (x0++[Int.tmod (IntKind.u64.wrap (x1+(rd l1 x2))) 65536]) (IntKind.u64.wrap (Int.tdiv (IntKind.u64.wrap (x1+(rd l1 x2))) 65536)) (wrap64 (x2+1))) else (none)) else (none)) else (if x0.length<17592186044416 then (carrefourref01_Plus.l0 kj2 l0 l1 (x0++[Int.tmod x1 65536]) (IntKind.u64.wrap (Int.tdiv x1 65536)) (wrap64 (x2+1))) else (none))))=some r:=by rw [if_pos rfl] at H;exact H
 clear H
 have H:=H1
 clear H1
 by_cases c7:x2<(l0.length:Int);{
 rw [if_pos c7] at H
 have c13:decide (x2<(l0.length:Int))=true:=decide_eq_true c7
 clear c7
 by_cases c8:0≤x2;{
 rw [if_pos c8] at H
 have c17:decide (0≤x2)=true:=decide_eq_true c8
 clear c8
 by_cases c9:x2<(l1.length:Int);{
 rw [if_pos c9] at H
 have c19:decide (x2<(l1.length:Int))=true:=decide_eq_true c9
 clear c9
 by_cases c10:x0.length<17592186044416;{
 rw [if_pos c10] at H
 have LMc0:=am c10
 clear c10
 obtain ⟨y0,hy0⟩:∃ y_:List Int,y_=(x0++[Int.tmod (IntKind.u64.wrap ((IntKind.u64.wrap (x1+(rd l0 x2)))+(rd l1 x2))) 65536]):=⟨_,rfl⟩
 replace H:(carrefourref01_Plus.l0 kj2 l0 l1 y0 (IntKind.u64.wrap (Int.tdiv (IntKind.u64.wrap ((IntKind.u64.wrap (x1+(rd l0 x2)))+(rd l1 x2))) 65536)) (wrap64 (x2+1)))=some r:=by first|(rw [hy0];with_reducible exact H)|(have H0:=(Option.bind_some _ _).symm.trans H;rw [hy0];with_reducible exact H0)|(have H0:=(Option.bind_some _ _).symm.trans H;with_reducible exact H0)|with_reducible exact H|(rw [hy0];exact H)|exact H
 have Ny0:=am hy0
 clear hy0
 have H':=am H
 clear H
 have p0:0≤(x2:Int):=od_
 have q0:x2<(l0.length:Int):=od_
 obtain ⟨ad0,e0,hx0⟩:=Kd.at_int HR0.out x2 p0 q0
 cases e0
 replace hx0:=hx_ HB hx0
 replace p0:=eq_true p0
 replace q0:=eq_true q0
 have p1:0≤(x2:Int):=od_
 have q1:x2<(l1.length:Int):=od_
 obtain ⟨ad1,e1,hx1⟩:=Kd.at_int HR1.out x2 p1 q1
 cases e1
 replace hx1:=hx_ HB hx1
 replace p1:=eq_true p1
 replace q1:=eq_true q1
 go_wp2_with (first|((with_reducible refine gate_builtin (b:=.append) (xs:=#[.tmp 46,.tmp 49]) rfl ?_);(try (refine gate_guard (by rfl) ?_;dsimp only));at_builtin;refine Kd.R_append (Kd.int .u64) (w0:=w) w.heap.size rfl (.tmp 46) (.tmp 49) 75 78 (.int .u64 0) 8 rfl Tryd.underlying75 info78 rfl (by decide) (by omega) u5 x0 (Int.tmod (IntKind.u64.wrap ((IntKind.u64.wrap (x1+(rd l0 x2)))+(rd l1 x2))) 65536) [.int .u64 (Int.tmod (IntKind.u64.wrap ((IntKind.u64.wrap (x1+(rd l0 x2)))+(rd l1 x2))) 65536)] (fun _=>True) (fun _=>False) rfl rfl ?aP (fun _ hk=>hk.elim) ?aF ?aO ?aB ?aS ?aL ?_;(case aP=>exact rfl);(case aB=>exact (bf HB));(case aF=>exact (fun _ _=>trivial));(case aO=>exact (Rt_ HO0.out));(case aS=>exact (below_size (bf HB)));(case aL=>have:=LMc0.out;omega);intro v2 w1 ho hb hg hat;rw [← Ny0.out] at ho;have n0:=am (hb);have n1:=am (ho);clear HB;clear HO0;have HB:=n0;have HO1:=n1;clear n0 n1;clear ho hb hg hat))
 go_roundg kj2
 case measure=>have:=HK1.out;have:=HJ2.out;omega
 case rel=>exact ⟨(y0),(IntKind.u64.wrap (Int.tdiv (IntKind.u64.wrap ((IntKind.u64.wrap (x1+(rd l0 x2)))+(rd l1 x2))) 65536)),(wrap64 (x2+1)),(aq),(aq),H',⟨by have:=HK1.out;have:=HJ2.out;omega⟩,⟨Rt_ HO1.out⟩,⟨bf HB⟩⟩};{
 rw [if_neg c10] at H
 exact absurd H (by simp)}};{
 rw [if_neg c9] at H
 have c19:decide (x2<(l1.length:Int))=false:=decide_eq_false c9
 clear c9
 by_cases c12:x0.length<17592186044416;{
 rw [if_pos c12] at H
 have LMc1:=am c12
 clear c12
 obtain ⟨y1,hy1⟩:∃ y_:List Int,y_=(x0++[Int.tmod (IntKind.u64.wrap (x1+(rd l0 x2))) 65536]):=⟨_,rfl⟩
 replace H:(carrefourref01_Plus.l0 kj2 l0 l1 y1 (IntKind.u64.wrap (Int.tdiv (IntKind.u64.wrap (x1+(rd l0 x2))) 65536)) (wrap64 (x2+1)))=some r:=by first|(rw [hy1];with_reducible exact H)|(have H0:=(Option.bind_some _ _).symm.trans H;rw [hy1];with_reducible exact H0)|(have H0:=(Option.bind_some _ _).symm.trans H;with_reducible exact H0)|with_reducible exact H|(rw [hy1];exact H)|exact H
 have Ny1:=am hy1
 clear hy1
 have H':=am H
 clear H
 have p0:0≤(x2:Int):=od_
 have q0:x2<(l0.length:Int):=od_
 obtain ⟨ad0,e0,hx0⟩:=Kd.at_int HR0.out x2 p0 q0
 cases e0
 replace hx0:=hx_ HB hx0
 replace p0:=eq_true p0
 replace q0:=eq_true q0
 go_wp2_with (first|((with_reducible refine gate_builtin (b:=.append) (xs:=#[.tmp 46,.tmp 49]) rfl ?_);(try (refine gate_guard (by rfl) ?_;dsimp only));at_builtin;refine Kd.R_append (Kd.int .u64) (w0:=w) w.heap.size rfl (.tmp 46) (.tmp 49) 75 78 (.int .u64 0) 8 rfl Tryd.underlying75 info78 rfl (by decide) (by omega) u5 x0 (Int.tmod (IntKind.u64.wrap (x1+(rd l0 x2))) 65536) [.int .u64 (Int.tmod (IntKind.u64.wrap (x1+(rd l0 x2))) 65536)] (fun _=>True) (fun _=>False) rfl rfl ?aP (fun _ hk=>hk.elim) ?aF ?aO ?aB ?aS ?aL ?_;(case aP=>exact rfl);(case aB=>exact (bf HB));(case aF=>exact (fun _ _=>trivial));(case aO=>exact (Rt_ HO0.out));(case aS=>exact (below_size (bf HB)));(case aL=>have:=LMc1.out;omega);intro v3 w2 ho hb hg hat;rw [← Ny1.out] at ho;have n0:=am (hb);have n1:=am (ho);clear HB;clear HO0;have HB:=n0;have HO2:=n1;clear n0 n1;clear ho hb hg hat))
 go_roundg kj2
 case measure=>have:=HK1.out;have:=HJ2.out;omega
 case rel=>exact ⟨(y1),(IntKind.u64.wrap (Int.tdiv (IntKind.u64.wrap (x1+(rd l0 x2))) 65536)),(wrap64 (x2+1)),(aq),(aq),H',⟨by have:=HK1.out;have:=HJ2.out;omega⟩,⟨Rt_ HO2.out⟩,⟨bf HB⟩⟩};{
 rw [if_neg c12] at H
 exact absurd H (by simp)}}};{
 rw [if_neg c8] at H
 exact absurd H (by simp)}};{
 rw [if_neg c7] at H
 have c13:decide (x2<(l0.length:Int))=false:=decide_eq_false c7
 clear c7
 by_cases c14:x2<(l1.length:Int);{
 rw [if_pos c14] at H
 have c23:decide (x2<(l1.length:Int))=true:=decide_eq_true c14
 clear c14
 by_cases c15:0≤x2;{
 rw [if_pos c15] at H
 have c25:decide (0≤x2)=true:=decide_eq_true c15
 clear c15
 by_cases c16:x0.length<17592186044416;{
 rw [if_pos c16] at H
 have LMc2:=am c16
 clear c16
 obtain ⟨y2,hy2⟩:∃ y_:List Int,y_=(x0++[Int.tmod (IntKind.u64.wrap (x1+(rd l1 x2))) 65536]):=⟨_,rfl⟩
 replace H:(carrefourref01_Plus.l0 kj2 l0 l1 y2 (IntKind.u64.wrap (Int.tdiv (IntKind.u64.wrap (x1+(rd l1 x2))) 65536)) (wrap64 (x2+1)))=some r:=by first|(rw [hy2];with_reducible exact H)|(have H0:=(Option.bind_some _ _).symm.trans H;rw [hy2];with_reducible exact H0)|(have H0:=(Option.bind_some _ _).symm.trans H;with_reducible exact H0)|with_reducible exact H|(rw [hy2];exact H)|exact H
 have Ny2:=am hy2
 clear hy2
 have H':=am H
 clear H
 have p3:0≤(x2:Int):=od_
 have q2:x2<(l1.length:Int):=od_
 obtain ⟨ad2,e2,hx2⟩:=Kd.at_int HR1.out x2 p3 q2
 cases e2
 replace hx2:=hx_ HB hx2
 replace p3:=eq_true p3
 replace q2:=eq_true q2
 go_wp2_with (first|((with_reducible refine gate_builtin (b:=.append) (xs:=#[.tmp 46,.tmp 49]) rfl ?_);(try (refine gate_guard (by rfl) ?_;dsimp only));at_builtin;refine Kd.R_append (Kd.int .u64) (w0:=w) w.heap.size rfl (.tmp 46) (.tmp 49) 75 78 (.int .u64 0) 8 rfl Tryd.underlying75 info78 rfl (by decide) (by omega) u5 x0 (Int.tmod (IntKind.u64.wrap (x1+(rd l1 x2))) 65536) [.int .u64 (Int.tmod (IntKind.u64.wrap (x1+(rd l1 x2))) 65536)] (fun _=>True) (fun _=>False) rfl rfl ?aP (fun _ hk=>hk.elim) ?aF ?aO ?aB ?aS ?aL ?_;(case aP=>exact rfl);(case aB=>exact (bf HB));(case aF=>exact (fun _ _=>trivial));(case aO=>exact (Rt_ HO0.out));(case aS=>exact (below_size (bf HB)));(case aL=>have:=LMc2.out;omega);intro v4 w3 ho hb hg hat;rw [← Ny2.out] at ho;have n0:=am (hb);have n1:=am (ho);clear HB;clear HO0;have HB:=n0;have HO3:=n1;clear n0 n1;clear ho hb hg hat))
 go_roundg kj2
 case measure=>have:=HK1.out;have:=HJ2.out;omega
 case rel=>exact ⟨(y2),(IntKind.u64.wrap (Int.tdiv (IntKind.u64.wrap (x1+(rd l1 x2))) 65536)),(wrap64 (x2+1)),(aq),(aq),H',⟨by have:=HK1.out;have:=HJ2.out;omega⟩,⟨Rt_ HO3.out⟩,⟨bf HB⟩⟩};{
 rw [if_neg c16] at H
 exact absurd H (by simp)}};{
 rw [if_neg c15] at H
 exact absurd H (by simp)}};{
 rw [if_neg c14] at H
 have c23:decide (x2<(l1.length:Int))=false:=decide_eq_false c14
 clear c14
 by_cases c18:x0.length<17592186044416;{
 rw [if_pos c18] at H
 have LMc3:=am c18
 clear c18
 obtain ⟨y3,hy3⟩:∃ y_:List Int,y_=(x0++[Int.tmod x1 65536]):=⟨_,rfl⟩
 replace H:(carrefourref01_Plus.l0 kj2 l0 l1 y3 (IntKind.u64.wrap (Int.tdiv x1 65536)) (wrap64 (x2+1)))=some r:=by first|(rw [hy3];with_reducible exact H)|(have H0:=(Option.bind_some _ _).symm.trans H;rw [hy3];with_reducible exact H0)|(have H0:=(Option.bind_some _ _).symm.trans H;with_reducible exact H0)|with_reducible exact H|(rw [hy3];exact H)|exact H
 have Ny3:=am hy3
 clear hy3
 have H':=am H
 clear H
 go_wp2_with (first|((with_reducible refine gate_builtin (b:=.append) (xs:=#[.tmp 46,.tmp 49]) rfl ?_);(try (refine gate_guard (by rfl) ?_;dsimp only));at_builtin;refine Kd.R_append (Kd.int .u64) (w0:=w) w.heap.size rfl (.tmp 46) (.tmp 49) 75 78 (.int .u64 0) 8 rfl Tryd.underlying75 info78 rfl (by decide) (by omega) u5 x0 (Int.tmod x1 65536) [.int .u64 (Int.tmod x1 65536)] (fun _=>True) (fun _=>False) rfl rfl ?aP (fun _ hk=>hk.elim) ?aF ?aO ?aB ?aS ?aL ?_;(case aP=>exact rfl);(case aB=>exact (bf HB));(case aF=>exact (fun _ _=>trivial));(case aO=>exact (Rt_ HO0.out));(case aS=>exact (below_size (bf HB)));(case aL=>have:=LMc3.out;omega);intro v8 w4 ho hb hg hat;rw [← Ny3.out] at ho;have n0:=am (hb);have n1:=am (ho);clear HB;clear HO0;have HB:=n0;have HO4:=n1;clear n0 n1;clear ho hb hg hat))
 go_roundg kj2
 case measure=>have:=HK1.out;have:=HJ2.out;omega
 case rel=>exact ⟨(y3),(IntKind.u64.wrap (Int.tdiv x1 65536)),(wrap64 (x2+1)),(aq),(aq),H',⟨by have:=HK1.out;have:=HJ2.out;omega⟩,⟨Rt_ HO4.out⟩,⟨bf HB⟩⟩};{
 rw [if_neg c18] at H
 exact absurd H (by simp)}}}};{
 replace c6:=Bool.eq_false_iff.mpr c6
 subst c6
 have H1:(some x0)=some r:=by rw [if_neg (show ¬ (false=true) by decide)] at H;exact H
 clear H
 have H:=H1
 clear H1
 obtain rfl:=Option.some.inj H
 go_wp2
 go_ret
 exact ⟨_,ae,by (with_reducible repeat (first|apply Kd.R_alloc|apply Kd.R_drewN|apply Kd.R_drew));exact HO0.out,bf HB⟩}}}}}
theorem carrefourref01_Parts.calls (k:Nat) (a0:Int) (r:List Int) (w:World) (h:carrefourref01_Parts.f k a0=some r) :
  Calls Tryd.prog 45 #[.int .u64 a0] w fun e w'=>∃ v1:Value,e=.returned (v1)∧Kd.R (Kd.int .u64) 78 w' w.heap.size (fun _=>True) v1 r∧Below w.heap.size w w':=by
 have HB:=am (Below.refl w.heap.size w)
 have H:(carrefourref01_Parts.l0 k a0 ([]:List Int) 0)=some r:=h
 clear h
 have H':=am H
 clear H
 go_enter Tryd.func45,Tryd.ntmps45
 go_wp2
 go_loopg [0,3,4] k (fun kq v0 v3 v4 w'=>∃ (x0:Int) (x1:List Int) (x2:Int),v0=.int .u64 x0∧v4=.int .i64 x2∧Aside0 (carrefourref01_Parts.l0 kq x0 x1 x2=some r)∧Aside0 (kq≤k)∧Aside0 (Kd.R (Kd.int .u64) 78 w' w.heap.size (fun _=>True) v3 x1)∧Aside0 (Below w.heap.size w w'))
 case atStart=>exact ⟨(a0),(([]:List Int)),(0),(aq),(aq),H',⟨Nat.le_refl _⟩,⟨by first|exact Kd.R_nil _ _ _ _ _|exact Kd.N_nil _ _ _ _ _|exact Kd.V_nil _ _ _ _ _|exact Kd.Q_nil _ _ _ _ _|exact Kd.S_nil _ _ _ _ _⟩,⟨bf HB⟩⟩
 case round =>skip;{
 clear H'
 obtain ⟨x0,x1,x2,rfl,rfl,HA,HK1,HO0,HB⟩:=hrel
 cases gk with
 | zero=>exact absurd HA.out (by simp [carrefourref01_Parts.l0])
 | succ k1 =>skip;{
 have H:=HA.out
 clear HA
 simp only [carrefourref01_Parts.l0] at H
 by_cases c2:x2<4;{
 rw [if_pos c2] at H
 have c0:decide (x2<4)=true:=decide_eq_true c2
 clear c2
 by_cases c3:x1.length<17592186044416;{
 rw [if_pos c3] at H
 have LMc3:=am c3
 clear c3
 obtain ⟨y0,hy0⟩:∃ y_:List Int,y_=(x1++[Int.tmod x0 65536]):=⟨_,rfl⟩
 replace H:(carrefourref01_Parts.l0 k1 (IntKind.u64.wrap (Int.tdiv x0 65536)) y0 (wrap64 (x2+1)))=some r:=by first|(rw [hy0];with_reducible exact H)|(have H0:=(Option.bind_some _ _).symm.trans H;rw [hy0];with_reducible exact H0)|(have H0:=(Option.bind_some _ _).symm.trans H;with_reducible exact H0)|with_reducible exact H|(rw [hy0];exact H)|exact H
 have Ny0:=am hy0
 clear hy0
 have H':=am H
 clear H
 go_wp2_with (first|((with_reducible refine gate_builtin (b:=.append) (xs:=#[.tmp 9,.tmp 12]) rfl ?_);at_builtin;refine Kd.R_append (Kd.int .u64) (w0:=w) w.heap.size rfl (.tmp 9) (.tmp 12) 75 78 (.int .u64 0) 8 rfl Tryd.underlying75 info78 rfl (by decide) (by omega) u3 x1 (Int.tmod x0 65536) [.int .u64 (Int.tmod x0 65536)] (fun _=>True) (fun _=>False) rfl rfl ?aP (fun _ hk=>hk.elim) ?aF ?aO ?aB ?aS ?aL ?_;(case aP=>exact rfl);(case aB=>exact (bf HB));(case aF=>exact (fun _ _=>trivial));(case aO=>exact (Rt_ HO0.out));(case aS=>exact (below_size (bf HB)));(case aL=>have:=LMc3.out;omega);intro v2 w4 ho hb hg hat;rw [← Ny0.out] at ho;have n0:=am (hb);have n1:=am (ho);clear HB;clear HO0;have HB:=n0;have HO1:=n1;clear n0 n1;clear ho hb hg hat))
 go_roundg k1
 case measure=>have:=HK1.out;omega
 case rel=>exact ⟨(IntKind.u64.wrap (Int.tdiv x0 65536)),(y0),(wrap64 (x2+1)),(aq),(aq),H',⟨by have:=HK1.out;omega⟩,⟨Rt_ HO1.out⟩,⟨bf HB⟩⟩};{
 rw [if_neg c3] at H
 exact absurd H (by simp)}};{
 rw [if_neg c2] at H
 have c0:decide (x2<4)=false:=decide_eq_false c2
 clear c2
 obtain rfl:=Option.some.inj H
 go_wp2
 go_ret
 exact ⟨_,ae,by (with_reducible repeat (first|apply Kd.R_alloc|apply Kd.R_drewN|apply Kd.R_drew));exact HO0.out,bf HB⟩}}}
end Go.Proofs.YtenphnkiacfmiaaDoor.X
