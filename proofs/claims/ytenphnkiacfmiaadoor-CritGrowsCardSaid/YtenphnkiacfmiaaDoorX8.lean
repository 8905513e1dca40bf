/- Walks: each '.calls' says that the Go function comes to what its Lean function tells. Conditions: as each theorem's head says. -/
import Derived.Test.YtenphnkiacfmiaaDoorXD
import Derived.Test.YtenphnkiacfmiaaDoorX0
import Derived.Test.YtenphnkiacfmiaaDoorX1
import Derived.Test.YtenphnkiacfmiaaDoorX7
namespace Go.Proofs.YtenphnkiacfmiaaDoor.X
open Go.RowKit Go.Proofs.YtenphnkiacfmiaaDoorW.PrintWords Go.Proofs.YtenphnkiacfmiaaDoorW.PrintLast Go.Proofs.YtenphnkiacfmiaaDoorW.PrintMore
attribute [local go_sem] max2_int min2_int max_two min_two max_three min_three max_four min_four
set_option linter.unusedVariables false
set_option maxHeartbeats 8000000
set_option maxRecDepth 100000
set_option linter.unusedSimpArgs false
attribute [local go_sem high] eqA105
def frac_signed_times.T1:Bool × List (List Nat × List Nat):=(true,[([],[]),([0],[0]),([],[]),([2],[2]),([1,3],[1,3]),([],[]),([5],[5]),([6],[6]),([],[]),([8],[8]),([9],[9]),([7,10],[7,10]),([4,11],[4,11]),([12,11,0,1,2,3,4,5,6,7,8,9,10,11,12],[12])])
def frac_signed_times.B1:List Nat:=[0,1,0,4,15,0,32,96,0,256,768,2016,4095,8191]
theorem frac_signed_times.tab1:rtab .any (opsOf Tryd.f61 1)=frac_signed_times.T1:=by kernel_rfl
theorem frac_signed_times.bits1:waitsOk frac_signed_times.T1.2 frac_signed_times.B1=true:=by kernel_rfl
theorem frac_signed_times.calls (a0:Bool) (a1:Int) (a2:Int) (a3:Bool) (a4:Int) (a5:Int) (r1:Bool) (r2:Int) (r3:Int) (w:World) (h:frac_signed_times.f a0 a1 a2 a3 a4 a5=some (r1,r2,r3)) :
  Calls Tryd.prog 61 #[.agg #[.bool a0,.int .u64 a1,.int .u64 a2],.agg #[.bool a3,.int .u64 a4,.int .u64 a5]] w fun e w'=>e=.returned (.agg #[.bool r1,.int .u64 r2,.int .u64 r3])∧Below w.heap.size w w':=by
 have hu0:=Tryd.underlying107
 have HB:=am (Below.refl w.heap.size w)
 have H:((frac_multiply.f a2 a5).bind fun bt0=>(some ((a0 != a3),bt0.1,bt0.2)))=some (r1,r2,r3):=h
 clear h
 replace H:=bi_ H;obtain ⟨⟨t0,t1⟩,A3,H⟩:=H
 (try dsimp only at H)
 simp only [Option.some.injEq,Prod.mk.injEq] at H
 obtain ⟨rfl,rfl,rfl⟩:=H
 go_enter Tryd.func61,Tryd.ntmps61
 try go_wp2_with (first|((with_reducible refine gd 2 rfl ?_);refine bx_ 2 107 #[.bool a0,.int .u64 a1,.int .u64 a2] rfl rfl ?_;intro gb0 hg w4 BK0 hb;have GE0:=bz HB hg;replace HB:=bs HB hb;clear hb hg)|((with_reducible refine gd 3 rfl ?_);refine bx_ 3 107 #[.bool a3,.int .u64 a4,.int .u64 a5] rfl rfl ?_;intro gb1 hg w5 BK1 hb;have GE1:=bz HB hg;have ⟨NB0,NB1⟩:=nb BK0 hg;replace BK0:=bb BK0 hb;replace HB:=bs HB hb;clear hb hg)|((with_reducible refine gd 4 rfl ?_);refine bx_ 4 107 #[.bool false,.int .u64 0,.int .u64 0] rfl rfl ?_;intro gb2 hg w6 BK2 hb;have GE2:=bz HB hg;have ⟨NB2,NB3⟩:=nb BK0 hg;have ⟨NB4,NB5⟩:=nb BK1 hg;replace BK0:=bb BK0 hb;replace BK1:=bb BK1 hb;replace HB:=bs HB hb;clear hb hg))
 replace BK0:=am (blk_drew BK0.out)
 replace BK1:=am (blk_drew BK1.out)
 replace BK2:=am (blk_drew BK2.out)
 replace HB:=am (below_drew1 HB.out)
 refine start_ (n:=14) (S:=fun w'=>c_ w' gb0 0 (.bool a0)∧c_ w' gb0 1 (.int .u64 a1)∧c_ w' gb0 2 (.int .u64 a2)∧c_ w' gb1 0 (.bool a3)∧c_ w' gb1 1 (.int .u64 a4)∧c_ w' gb1 2 (.int .u64 a5)) (ds:=[]) (m_ 14 0) (by kernel_rfl) rfl rfl ⟨ct BK0 0,ct BK0 1,ct BK0 2,ct BK1 0,ct BK1 1,ct BK1 2⟩ (fun hHeld=>?_);refine with_tabW frac_signed_times.tab1 frac_signed_times.bits1 (fun HT_ HW_=>?_)
 generalize w6.drew=w7 at BK0 BK1 BK2 HB hHeld ⊢
 refine pu_ 0 (some 5) (m_ 14 1) rfl rfl (ao HT_) ?_
 refine pu_ 2 (some 7) (m_ 14 5) rfl rfl (ao HT_) ?_
 refine pu_ 5 (some 10) (m_ 14 37) rfl rfl (ao HT_) ?_
 refine pu_ 6 (some 11) (m_ 14 101) rfl rfl (ao HT_) ?_
 refine pu_ 8 (some 13) (m_ 14 357) rfl rfl (ao HT_) ?_
 refine pu_ 9 (some 14) (m_ 14 869) rfl rfl (ao HT_) ?_
 refine tk_ 1 (some 6) (m_ 14 871) rfl rfl (tw HT_ HW_) hHeld ?_
 refine tk_ 3 (some 8) (m_ 14 879) rfl rfl (tw HT_ HW_) hHeld ?_
 refine pu_ 4 (some 9) (m_ 14 895) rfl rfl (ao HT_) ?_
 refine tk_ 7 (some 12) (m_ 14 1023) rfl rfl (tw HT_ HW_) hHeld ?_
 refine tk_ 10 (some 15) (m_ 14 2047) rfl rfl (tw HT_ HW_) hHeld ?_
 refine o1_ 11 (some 16) (m_ 14 4095) rfl rfl (oo HT_) (fun K hK=>?_)
 refine gs_ rfl Tryd.func67 (frac_multiply.calls _ _ _ _ _ A3.out) ag ?_
 intro w8 hb
 replace BK0:=bb BK0 hb
 replace BK1:=bb BK1 hb
 replace BK2:=bb BK2 hb
 replace HB:=bs HB hb
 (try clear hb)
 refine hK.out _ _ ⟨ct BK0 0,ct BK0 1,ct BK0 2,ct BK1 0,ct BK1 1,ct BK1 2⟩ (fun hHeld=>?_)
 clear hK K
 refine nr_ (some 16) ?_
 refine pu_ 12 (some 17) (m_ 14 8191) rfl rfl (ao HT_) ?_
 refine o1_ 13 (none) (m_ 14 16383) rfl rfl (oo HT_) (fun K hK=>?_)
 have hs9:c_ w8 gb2 0 (.bool false):=ct BK2 0
 have hfs9:=blk_frozen BK2.out 0
 have hns0:=NB2.out
 have hns1:=NB4.out
 have hms0:=NB3.out
 have hms1:=NB5.out
 have hs0:c_ w8 gb2 1 (.int .u64 0):=ct BK2 1
 have hfs0:=blk_frozen BK2.out 1
 have hns2:=NB2.out
 have hns3:=NB4.out
 have hms2:=NB3.out
 have hms3:=NB5.out
 have hs1:c_ w8 gb2 2 (.int .u64 0):=ct BK2 2
 have hfs1:=blk_frozen BK2.out 2
 have hns4:=NB2.out
 have hns5:=NB4.out
 have hms4:=NB3.out
 have hms5:=NB5.out
 refine skip_ (w1:=?_) (by rfl) rfl ?_ ?_
 rotate_left;{
 go_simp
 rfl}
 refine hK.out _ _ (by obtain ⟨d0,d1,d2,d3,d4,d5⟩:=hHeld;exact ⟨fa_ NB2 (fa_ NB2 (fa_ NB2 d0)),fa_ NB2 (fa_ NB2 (fa_ NB2 d1)),fa_ NB2 (fa_ NB2 (fa_ NB2 d2)),fa_ NB4 (fa_ NB4 (fa_ NB4 d3)),fa_ NB4 (fa_ NB4 (fa_ NB4 d4)),fa_ NB4 (fa_ NB4 (fa_ NB4 d5))⟩) (fun hHeld=>?_)
 clear hK K
 refine done_ (done_of HT_.out (by kernel_rfl)) ?_
 try go_wp2
 refine bodyPost_ret (results_cell_row rfl _ _ gb2 107 #[.bool (a0 != a3),.int .u64 t0,.int .u64 t1] (0,0) _ rfl (br_ BK2) Tryd.underlying107 rfl (by kernel_rfl)) rfl ?_
 exact ⟨ae,bf HB⟩
theorem frac_wide_cmp.calls (a0:Int) (a1:Int) (a2:Int) (a3:Int) (r:Int) (w:World) (h:frac_wide_cmp.f a0 a1 a2 a3=some r) :
  Calls Tryd.prog 72 #[.agg #[.int .u64 a0,.int .u64 a1],.agg #[.int .u64 a2,.int .u64 a3]] w fun e w'=>e=.returned (.int .i64 r)∧Below w.heap.size w w':=by
 have hu0:=Tryd.underlying105
 have HB:=am (Below.refl w.heap.size w)
 have H:(if (a0==a2&&(a1==a3))=true then (some 0) else (if a0<a2 then (some (-1)) else (if a0=a2 then (if a1<a3 then (some (-1)) else (some 1)) else (some 1))))=some r:=h
 clear h
 by_cases c3:(a0==a2&&(a1==a3))=true;{
 rw [if_pos c3] at H
 have c0:(a0==a2&&(a1==a3))=true:=c3
 (try (have c1:decide (a0=a2&&(a1==a3))=true:=by simpa using c3))
 (try (have c2:(a0==a2&&(a1==a3))=true:=by simpa using c3))
 clear c3
 obtain rfl:=Option.some.inj H
 go_enter Tryd.func72,Tryd.ntmps72
 go_wp2_with (first|((with_reducible refine gd 2 rfl ?_);refine bx_ 2 105 #[.int .u64 a0,.int .u64 a1] rfl rfl ?_;intro gb0 hg w4 BK0 hb;have GE0:=bz HB hg;replace HB:=bs HB hb;clear hb hg)|((with_reducible refine gd 3 rfl ?_);refine bx_ 3 105 #[.int .u64 a2,.int .u64 a3] rfl rfl ?_;intro gb1 hg w5 BK1 hb;have GE1:=bz HB hg;have ⟨NB0,NB1⟩:=nb BK0 hg;replace BK0:=bb BK0 hb;replace HB:=bs HB hb;clear hb hg;have hnb6:=nn NB0;have hcz7:=X.k2 BK0;have hcz8:=X.k2 BK1))
 all_goals first|(go_ret;refine ⟨?ea_,?eb_⟩;(case ea_=>(first|rfl|(simp [errW_none,errW_some]<;>rfl)|(simp [*,errW_none,errW_some]<;>rfl)));(case eb_=>(repeat (first|(with_reducible first|exact HB.out|apply below_alloc|apply pw_below_drewN|apply below_drew1|refine below_set ?_ GE0.out|refine below_set ?_ GE1.out)|exact HB.out))))|(exfalso;simp_all;done)};{
 rw [if_neg c3] at H
 have c0:(a0==a2&&(a1==a3))=false:=by simpa using c3
 (try (have c1:decide (a0=a2&&(a1==a3))=false:=by simpa using c3))
 (try (have c2:(a0==a2&&(a1==a3))=false:=by simpa using c3))
 (try (have c4:¬ (a0=a2&&(a1==a3)):=by simpa using c3))
 clear c3
 by_cases c9:a0<a2;{
 rw [if_pos c9] at H
 have c5:decide (a0<a2)=true:=decide_eq_true c9
 clear c9
 obtain rfl:=Option.some.inj H
 go_enter Tryd.func72,Tryd.ntmps72
 go_wp2_with (first|((with_reducible refine gd 2 rfl ?_);refine bx_ 2 105 #[.int .u64 a0,.int .u64 a1] rfl rfl ?_;intro gb0 hg w0 BK0 hb;have GE0:=bz HB hg;replace HB:=bs HB hb;clear hb hg)|((with_reducible refine gd 3 rfl ?_);refine bx_ 3 105 #[.int .u64 a2,.int .u64 a3] rfl rfl ?_;intro gb1 hg w1 BK1 hb;have GE1:=bz HB hg;have ⟨NB0,NB1⟩:=nb BK0 hg;replace BK0:=bb BK0 hb;replace HB:=bs HB hb;clear hb hg;have hnb0:=nn NB0;have hcz0:=X.k2 BK0;have hcz1:=X.k2 BK1))
 all_goals first|(go_ret;refine ⟨?ea_,?eb_⟩;(case ea_=>(first|rfl|(simp [errW_none,errW_some]<;>rfl)|(simp [*,errW_none,errW_some]<;>rfl)));(case eb_=>(repeat (first|(with_reducible first|exact HB.out|apply below_alloc|apply pw_below_drewN|apply below_drew1|refine below_set ?_ GE0.out|refine below_set ?_ GE1.out)|exact HB.out))))|(exfalso;simp_all;done)};{
 rw [if_neg c9] at H
 have c5:decide (a0<a2)=false:=decide_eq_false c9
 clear c9
 by_cases c6:a0=a2;{
 rw [if_pos c6] at H
 have c7:(a0==a2)=true:=beq_iff_eq.mpr c6
 have c8:(a0 != a2)=false:=bne_eq_false_iff_eq.mpr c6
 clear c6
 by_cases c16:a1<a3;{
 rw [if_pos c16] at H
 have c11:decide (a1<a3)=true:=decide_eq_true c16
 clear c16
 obtain rfl:=Option.some.inj H
 go_enter Tryd.func72,Tryd.ntmps72
 go_wp2_with (first|((with_reducible refine gd 2 rfl ?_);refine bx_ 2 105 #[.int .u64 a0,.int .u64 a1] rfl rfl ?_;intro gb0 hg w2 BK0 hb;have GE0:=bz HB hg;replace HB:=bs HB hb;clear hb hg)|((with_reducible refine gd 3 rfl ?_);refine bx_ 3 105 #[.int .u64 a2,.int .u64 a3] rfl rfl ?_;intro gb1 hg w3 BK1 hb;have GE1:=bz HB hg;have ⟨NB0,NB1⟩:=nb BK0 hg;replace BK0:=bb BK0 hb;replace HB:=bs HB hb;clear hb hg;have hnb1:=nn NB0;have hcz2:=X.k2 BK0;have hcz3:=X.k2 BK1))
 all_goals first|(go_ret;refine ⟨?ea_,?eb_⟩;(case ea_=>(first|rfl|(simp [errW_none,errW_some]<;>rfl)|(simp [*,errW_none,errW_some]<;>rfl)));(case eb_=>(repeat (first|(with_reducible first|exact HB.out|apply below_alloc|apply pw_below_drewN|apply below_drew1|refine below_set ?_ GE0.out|refine below_set ?_ GE1.out)|exact HB.out))))|(exfalso;simp_all;done)};{
 rw [if_neg c16] at H
 have c11:decide (a1<a3)=false:=decide_eq_false c16
 clear c16
 obtain rfl:=Option.some.inj H
 go_enter Tryd.func72,Tryd.ntmps72
 go_wp2_with (first|((with_reducible refine gd 2 rfl ?_);refine bx_ 2 105 #[.int .u64 a0,.int .u64 a1] rfl rfl ?_;intro gb0 hg w6 BK0 hb;have GE0:=bz HB hg;replace HB:=bs HB hb;clear hb hg)|((with_reducible refine gd 3 rfl ?_);refine bx_ 3 105 #[.int .u64 a2,.int .u64 a3] rfl rfl ?_;intro gb1 hg w7 BK1 hb;have GE1:=bz HB hg;have ⟨NB0,NB1⟩:=nb BK0 hg;replace BK0:=bb BK0 hb;replace HB:=bs HB hb;clear hb hg;have hnb2:=nn NB0;have hcz4:=X.k2 BK0;have hcz5:=X.k2 BK1))
 all_goals first|(go_ret;refine ⟨?ea_,?eb_⟩;(case ea_=>(first|rfl|(simp [errW_none,errW_some]<;>rfl)|(simp [*,errW_none,errW_some]<;>rfl)));(case eb_=>(repeat (first|(with_reducible first|exact HB.out|apply below_alloc|apply pw_below_drewN|apply below_drew1|refine below_set ?_ GE0.out|refine below_set ?_ GE1.out)|exact HB.out))))|(exfalso;simp_all;done)}};{
 rw [if_neg c6] at H
 have c7:(a0==a2)=false:=beq_eq_false_iff_ne.mpr c6
 have c8:(a0 != a2)=true:=bne_iff_ne.mpr c6
 obtain rfl:=Option.some.inj H
 go_enter Tryd.func72,Tryd.ntmps72
 go_wp2_with (first|((with_reducible refine gd 2 rfl ?_);refine bx_ 2 105 #[.int .u64 a0,.int .u64 a1] rfl rfl ?_;intro gb0 hg w8 BK0 hb;have GE0:=bz HB hg;replace HB:=bs HB hb;clear hb hg)|((with_reducible refine gd 3 rfl ?_);refine bx_ 3 105 #[.int .u64 a2,.int .u64 a3] rfl rfl ?_;intro gb1 hg w9 BK1 hb;have GE1:=bz HB hg;have ⟨NB0,NB1⟩:=nb BK0 hg;replace BK0:=bb BK0 hb;replace HB:=bs HB hb;clear hb hg;have hnb3:=nn NB0;have hcz6:=X.k2 BK0;have hcz9:=X.k2 BK1))
 all_goals first|(go_ret;refine ⟨?ea_,?eb_⟩;(case ea_=>(first|rfl|(simp [errW_none,errW_some]<;>rfl)|(simp [*,errW_none,errW_some]<;>rfl)));(case eb_=>(repeat (first|(with_reducible first|exact HB.out|apply below_alloc|apply pw_below_drewN|apply below_drew1|refine below_set ?_ GE0.out|refine below_set ?_ GE1.out)|exact HB.out))))|(exfalso;simp_all;done)}}}
theorem run_sub64 (x y b:Nat) (hb:b≤1) (w:World) :
    (sub64Entry #[.int .u64 x,.int .u64 y,.int .u64 b]).run Tryd.prog w =
      .ok (.tuple #[.int .u64 (((x+18446744073709551616-y-b) % 18446744073709551616:Nat):Int),.int .u64 ((if x<y+b then 1 else 0:Nat):Int)]) w:=by
 have:b=0∨b=1:=by omega
 rcases this with rfl|rfl<;>rfl
theorem bits_Sub64.calls (a0 a1 a2 r1 r2:Int) (w:World) (h:bits_Sub64.f a0 a1 a2=some (r1,r2)) :
  XCalls Tryd.prog 82 #[.int .u64 a0,.int .u64 a1,.int .u64 a2] w fun e w'=>e=.returned (.tuple #[.int .u64 r1,.int .u64 r2])∧w=w':=by
 unfold bits_Sub64.f at h
 by_cases c:0≤a0∧0≤a1∧a1<18446744073709551616∧0≤a2∧a2≤1;{
 rw [if_pos c] at h
 simp only [Option.some.injEq,Prod.mk.injEq] at h
 obtain ⟨rfl,rfl⟩:=h
 obtain ⟨h0,h1,h2,h3,h4⟩:=c
 refine ⟨_,?_,rfl,rfl⟩
 obtain ⟨x,rfl⟩:=Int.eq_ofNat_of_zero_le h0
 obtain ⟨y,rfl⟩:=Int.eq_ofNat_of_zero_le h1
 obtain ⟨b,rfl⟩:=Int.eq_ofNat_of_zero_le h3
 have e1:(((x+18446744073709551616-y-b) % 18446744073709551616:Nat):Int)=((x:Int)-y-b) % 18446744073709551616:=by omega
 have e2:((if x<y+b then 1 else 0:Nat):Int)=if (x:Int)<y+b then 1 else 0:=by split<;>split<;>omega
 rw [← e1,← e2]
 rw [run_callFunc_extern Tryd.func82 (by kernel_rfl) (by kernel_rfl) (by kernel_rfl) (e:=sub64Entry) (by kernel_rfl),run_sub64 x y b (by omega)]
 rfl};{
 rw [if_neg c] at h
 cases h}
theorem frac_wide_minus.calls (a0:Int) (a1:Int) (a2:Int) (a3:Int) (r1:Int) (r2:Int) (w:World) (h:frac_wide_minus.f a0 a1 a2 a3=some (r1,r2)) :
  Calls Tryd.prog 73 #[.agg #[.int .u64 a0,.int .u64 a1],.agg #[.int .u64 a2,.int .u64 a3]] w fun e w'=>e=.returned (.agg #[.int .u64 r1,.int .u64 r2])∧Below w.heap.size w w':=by
 have hu0:=Tryd.underlying105
 have HB:=am (Below.refl w.heap.size w)
 have H:((bits_Sub64.f a1 a3 0).bind fun bt0=>((bits_Sub64.f a0 a2 bt0.2).bind fun bt1=>(some (bt1.1,bt0.1))))=some (r1,r2):=h
 clear h
 replace H:=bi_ H;obtain ⟨⟨t0,t1⟩,A3,H⟩:=H
 (try dsimp only at H)
 replace H:=bi_ H;obtain ⟨⟨t2,t3⟩,A4,H⟩:=H
 (try dsimp only at H)
 simp only [Option.some.injEq,Prod.mk.injEq] at H
 obtain ⟨rfl,rfl⟩:=H
 go_enter Tryd.func73,Tryd.ntmps73
 go_wp2_with (first|((with_reducible refine gd 2 rfl ?_);refine bx_ 2 105 #[.int .u64 a0,.int .u64 a1] rfl rfl ?_;intro gb0 hg w5 BK0 hb;have GE0:=bz HB hg;replace HB:=bs HB hb;clear hb hg)|((with_reducible refine gd 3 rfl ?_);refine bx_ 3 105 #[.int .u64 a2,.int .u64 a3] rfl rfl ?_;intro gb1 hg w6 BK1 hb;have GE1:=bz HB hg;have ⟨NB0,NB1⟩:=nb BK0 hg;replace BK0:=bb BK0 hb;replace HB:=bs HB hb;clear hb hg)|((with_reducible refine gd 4 rfl ?_);refine bx_ 4 105 #[.int .u64 0,.int .u64 0] rfl rfl ?_;intro gb2 hg w7 BK2 hb;have GE2:=bz HB hg;have ⟨NB2,NB3⟩:=nb BK0 hg;have ⟨NB4,NB5⟩:=nb BK1 hg;replace BK0:=bb BK0 hb;replace BK1:=bb BK1 hb;replace HB:=bs HB hb;clear hb hg;have hnb8:=nn NB0;have hnb9:=nn NB2;have hcz0:=X.k2 BK0;have hnb0:=nn NB4;have hcz1:=X.k2 BK1)|((with_reducible refine gate_callee (f:=82) rfl ?_);refine goesX_ (some 14) rfl rfl #[.int .u64 a1,.int .u64 a3,.int .u64 0] rfl ag ?_;(with_reducible refine (bits_Sub64.calls _ _ _ _ _ _ A3.out).mono ?_);rintro e w' ⟨rfl,rfl⟩;refine ⟨_,rfl,?_⟩;(try (rw [drewN_self w7];generalize hq_:World.drewN w7 _=w7;have n0:Aside0 (w7.heap[gb0]?=some (.cells #[.int .u64 a0,.int .u64 a1] 105 (0,0))):=⟨by rw [← hq_];exact (bx BK0)⟩;have n1:Aside0 (w7.heap[gb1]?=some (.cells #[.int .u64 a2,.int .u64 a3] 105 (0,0))):=⟨by rw [← hq_];exact (bx BK1)⟩;have n2:Aside0 (w7.heap[gb2]?=some (.cells #[.int .u64 0,.int .u64 0] 105 (0,0))):=⟨by rw [← hq_];exact (bx BK2)⟩;have n3:Aside0 (Below w.heap.size w w7):=⟨by rw [← hq_];exact (bf HB)⟩;clear BK0 BK1 BK2 HB hq_;have BK0:=n0;have BK1:=n1;have BK2:=n2;have HB:=n3;clear n0 n1 n2 n3)))|((with_reducible refine gate_callee (f:=82) rfl ?_);refine goesX_ (some 23) rfl rfl #[.int .u64 a0,.int .u64 a2,.int .u64 t1] rfl ag ?_;(with_reducible refine (bits_Sub64.calls _ _ _ _ _ _ A4.out).mono ?_);rintro e w' ⟨rfl,rfl⟩;refine ⟨_,rfl,?_⟩;(try (rw [drewN_self w7];generalize hq_:World.drewN w7 _=w7;have n0:Aside0 (w7.heap[gb0]?=some (.cells #[.int .u64 a0,.int .u64 a1] 105 (0,0))):=⟨by rw [← hq_];exact (bx BK0)⟩;have n1:Aside0 (w7.heap[gb1]?=some (.cells #[.int .u64 a2,.int .u64 a3] 105 (0,0))):=⟨by rw [← hq_];exact (bx BK1)⟩;have n2:Aside0 (w7.heap[gb2]?=some (.cells #[.int .u64 0,.int .u64 0] 105 (0,0))):=⟨by rw [← hq_];exact (bx BK2)⟩;have n3:Aside0 (Below w.heap.size w w7):=⟨by rw [← hq_];exact (bf HB)⟩;clear BK0 BK1 BK2 HB hq_;have BK0:=n0;have BK1:=n1;have BK2:=n2;have HB:=n3;clear n0 n1 n2 n3));have hcz2:=X.k2 BK2))
 refine bodyPost_ret (results_cell_row rfl _ _ gb2 105 #[.int .u64 t2,.int .u64 t0] (0,0) _ rfl (br_ BK2) Tryd.underlying105 rfl (by kernel_rfl)) rfl ?_
 exact ⟨ae,bf HB⟩
theorem frac_wide_zero.calls (a0:Int) (a1:Int) (r:Bool) (w:World) (h:frac_wide_zero.f a0 a1=some r) :
  Calls Tryd.prog 76 #[.agg #[.int .u64 a0,.int .u64 a1]] w fun e w'=>e=.returned (.bool r)∧Below w.heap.size w w':=by
 have hu0:=Tryd.underlying105
 have HB:=am (Below.refl w.heap.size w)
 have H:(some ((Go.bits .or .u64 a0 a1)==0))=some r:=h
 clear h
 obtain rfl:=Option.some.inj H
 go_enter Tryd.func76,Tryd.ntmps76
 go_wp2_with (first|((with_reducible refine gd 1 rfl ?_);refine bx_ 1 105 #[.int .u64 a0,.int .u64 a1] rfl rfl ?_;intro gb0 hg w2 BK0 hb;have GE0:=bz HB hg;replace HB:=bs HB hb;clear hb hg;have hcz3:=X.k2 BK0))
 go_ret
 exact ⟨ae,bf HB⟩
theorem frac_wide_twos.calls (a0:Int) (a1:Int) (r:Int) (w:World) (h:frac_wide_twos.f a0 a1=some r) (hT:TabOK w) :
  Calls Tryd.prog 77 #[.agg #[.int .u64 a0,.int .u64 a1]] w fun e w'=>e=.returned (.int .i64 r)∧Below w.heap.size w w':=by
 have GT:=am hT
 clear hT
 have hu0:=Tryd.underlying105
 have HB:=am (Below.refl w.heap.size w)
 have H:(if a1=0 then ((bits_TrailingZeros64.f a0).bind fun t0=>(some (wrap64 (64+t0)))) else ((bits_TrailingZeros64.f a1).bind fun t1=>(some t1)))=some r:=h
 clear h
 by_cases c2:a1=0;{
 rw [if_pos c2] at H
 have c0:(a1==0)=true:=beq_iff_eq.mpr c2
 have c1:(a1 != 0)=false:=bne_eq_false_iff_eq.mpr c2
 clear c2
 replace H:=bi_ H;obtain ⟨t0,A3,H⟩:=H
 (try dsimp only at H)
 obtain rfl:=Option.some.inj H
 go_enter Tryd.func77,Tryd.ntmps77
 go_wp2_with (first|((with_reducible refine gd 1 rfl ?_);refine bx_ 1 105 #[.int .u64 a0,.int .u64 a1] rfl rfl ?_;intro gb0 hg w4 BK0 hb;have GE0:=bz HB hg;replace HB:=bs HB hb;clear hb hg;have hcz5:=X.k2 BK0)|((with_reducible refine gc 83 rfl ?_);refine gm_ (some 8) rfl rfl Tryd.func83 (bits_TrailingZeros64.calls _ _ _ A3.out (tt GT)) ag ?_;rintro w' ⟨nd,rfl⟩))
 go_ret
 exact ⟨ae,bf HB⟩};{
 rw [if_neg c2] at H
 have c0:(a1==0)=false:=beq_eq_false_iff_ne.mpr c2
 have c1:(a1 != 0)=true:=bne_iff_ne.mpr c2
 replace H:=bi_ H;obtain ⟨t1,A6,H⟩:=H
 (try dsimp only at H)
 obtain rfl:=Option.some.inj H
 go_enter Tryd.func77,Tryd.ntmps77
 go_wp2_with (first|((with_reducible refine gd 1 rfl ?_);refine bx_ 1 105 #[.int .u64 a0,.int .u64 a1] rfl rfl ?_;intro gb0 hg w7 BK0 hb;have GE0:=bz HB hg;replace HB:=bs HB hb;clear hb hg;have hcz8:=X.k2 BK0)|((with_reducible refine gc 83 rfl ?_);refine gm_ (some 12) rfl rfl Tryd.func83 (bits_TrailingZeros64.calls _ _ _ A6.out (tt GT)) ag ?_;rintro w' ⟨nd,rfl⟩))
 go_ret
 exact ⟨ae,bf HB⟩}
def frac_wide_down.T3:Bool × List (List Nat × List Nat):=(true,[([],[]),([0],[0]),([],[]),([1,2],[1,2]),([],[]),([4],[4]),([],[]),([5,6],[5,6]),([],[]),([8],[8]),([],[]),([10],[10]),([9,11],[9,11]),([7,12],[7,12]),([3,13],[3,13]),([14,0,1,2,3,4,5,6,7,8,9,10,11,12,13,14],[14])])
def frac_wide_down.B3:List Nat:=[0,1,0,7,0,16,0,112,0,256,0,1024,3840,8176,16383,32767]
theorem frac_wide_down.tab3:rtab .any (opsOf Tryd.f78 3)=frac_wide_down.T3:=by kernel_rfl
theorem frac_wide_down.bits3:waitsOk frac_wide_down.T3.2 frac_wide_down.B3=true:=by kernel_rfl
theorem frac_wide_down.calls (a0:Int) (a2:Int) (a1:Int) (r1:Int) (r2:Int) (w:World) (h:frac_wide_down.f a0 a2 a1=some (r1,r2)) :
  Calls Tryd.prog 78 #[.agg #[.int .u64 a0,.int .u64 a2],.int .i64 a1] w fun e w'=>e=.returned (.agg #[.int .u64 r1,.int .u64 r2])∧Below w.heap.size w w':=by
 have hu0:=Tryd.underlying105
 have HB:=am (Below.refl w.heap.size w)
 have H:(if a1≥64 then (if 0≤(wrap64 (a1-64)) then (some (0,shr .u64 a0 (wrap64 (a1-64)))) else (none)) else (if 0≤a1 then (if 0≤(wrap64 (64-a1)) then (some (shr .u64 a0 a1,Go.bits .or .u64 (shr .u64 a2 a1) (shl .u64 a0 (wrap64 (64-a1))))) else (none)) else (none)))=some (r1,r2):=h
 clear h
 by_cases c3:a1≥64;{
 rw [if_pos c3] at H
 have c0:decide (64≤a1)=true:=decide_eq_true c3
 clear c3
 obtain ⟨ji4,hji4⟩:∃ j_:Int,(wrap64 (a1-64))=j_:=⟨_,rfl⟩
 replace H:(if 0≤(ji4) then (some (0,shr .u64 a0 (ji4))) else (none))=some (r1,r2):=by first|(rw [hji4] at H;exact H)|(simp only [hji4] at H ⊢;exact H)
 have hji4w:(IntKind.i64.wrap (a1-64))=ji4:=(i64_w _).trans hji4
 by_cases c5:0≤(ji4);{
 rw [if_pos c5] at H
 have c1:=eq_true c5
 have c2:decide (0≤(ji4))=true:=decide_eq_true c5
 clear c5
 obtain ⟨ji6,hji6⟩:∃ j_:Int,(shr .u64 a0 (ji4))=j_:=⟨_,rfl⟩
 replace H:(some (0,ji6))=some (r1,r2):=by first|(rw [hji6] at H;exact H)|(simp only [hji6] at H ⊢;exact H)
 have hji0:(a0 / 2 ^ min (ji4).toNat 64)=ji6:=hji6
 have hji6z:(ji4)≤64→(a0 / 2 ^ (ji4).toNat)=ji6:=shr_small hji6
 simp only [Option.some.injEq,Prod.mk.injEq] at H
 obtain ⟨rfl,rfl⟩:=H
 go_enter Tryd.func78,Tryd.ntmps78
 go_wp2_with (first|((with_reducible refine gd 2 rfl ?_);refine bx_ 2 105 #[.int .u64 a0,.int .u64 a2] rfl rfl ?_;intro gb0 hg w7 BK0 hb;have GE0:=bz HB hg;replace HB:=bs HB hb;clear hb hg)|((with_reducible refine gd 4 rfl ?_);refine bx_ 4 105 #[.int .u64 0,.int .u64 0] rfl rfl ?_;intro gb1 hg w8 BK1 hb;have GE1:=bz HB hg;have ⟨NB0,NB1⟩:=nb BK0 hg;replace BK0:=bb BK0 hb;replace HB:=bs HB hb;clear hb hg;have hnb9:=nn NB0;have hcz0:=X.k2 BK0;have hcz1:=X.k2 BK1))
 refine bodyPost_ret (results_cell_row rfl _ _ gb1 105 #[.int .u64 0,.int .u64 ji6] (0,0) _ rfl (br_ BK1) Tryd.underlying105 rfl (by kernel_rfl)) rfl ?_
 exact ⟨by first|rfl|(simp [errW_none,errW_some]<;>rfl)|(simp only [← hji4,← hji6];first|rfl|(simp [errW_none,errW_some]<;>rfl))|(simp [*,errW_none,errW_some]<;>rfl),bf HB⟩};{
 rw [if_neg c5] at H
 exact absurd H (by simp)}};{
 rw [if_neg c3] at H
 have c0:decide (64≤a1)=false:=decide_eq_false c3
 clear c3
 by_cases c4:0≤a1;{
 rw [if_pos c4] at H
 have c6:=eq_true c4
 have c7:decide (0≤a1)=true:=decide_eq_true c4
 clear c4
 obtain ⟨ji0,hji1⟩:∃ j_:Int,(shr .u64 a0 a1)=j_:=⟨_,rfl⟩
 replace H:(if 0≤(wrap64 (64-a1)) then (some (ji0,Go.bits .or .u64 (shr .u64 a2 a1) (shl .u64 a0 (wrap64 (64-a1))))) else (none))=some (r1,r2):=by first|(rw [hji1] at H;exact H)|(simp only [hji1] at H ⊢;exact H)
 have hji2:(a0 / 2 ^ min a1.toNat 64)=ji0:=hji1
 have hji13z:a1≤64→(a0 / 2 ^ a1.toNat)=ji0:=shr_small hji1
 have c8:=eq_true (od_:0≤a1)
 obtain ⟨ji1,hji3⟩:∃ j_:Int,(shr .u64 a2 a1)=j_:=⟨_,rfl⟩
 replace H:(if 0≤(wrap64 (64-a1)) then (some (ji0,Go.bits .or .u64 (ji1) (shl .u64 a0 (wrap64 (64-a1))))) else (none))=some (r1,r2):=by first|(rw [hji3] at H;exact H)|(simp only [hji3] at H ⊢;exact H)
 have hji5:(a2 / 2 ^ min a1.toNat 64)=ji1:=hji3
 have hji15z:a1≤64→(a2 / 2 ^ a1.toNat)=ji1:=shr_small hji3
 obtain ⟨ji2,hji7⟩:∃ j_:Int,(wrap64 (64-a1))=j_:=⟨_,rfl⟩
 replace H:(if 0≤(ji2) then (some (ji0,Go.bits .or .u64 (ji1) (shl .u64 a0 (ji2)))) else (none))=some (r1,r2):=by first|(rw [hji7] at H;exact H)|(simp only [hji7] at H ⊢;exact H)
 have hji16w:(IntKind.i64.wrap (64-a1))=ji2:=(i64_w _).trans hji7
 by_cases c9:0≤(ji2);{
 rw [if_pos c9] at H
 have c10:=eq_true c9
 have c11:decide (0≤(ji2))=true:=decide_eq_true c9
 clear c9
 obtain ⟨ji3,hji8⟩:∃ j_:Int,(shl .u64 a0 (ji2))=j_:=⟨_,rfl⟩
 replace H:(some (ji0,Go.bits .or .u64 (ji1) (ji3)))=some (r1,r2):=by first|(rw [hji8] at H;exact H)|(simp only [hji8] at H ⊢;exact H)
 have hji9:(IntKind.u64.wrap (a0*2 ^ min (ji2).toNat 64))=ji3:=hji8
 have hji18z:(ji2)≤64→(IntKind.u64.wrap (a0*2 ^ (ji2).toNat))=ji3:=shl_small hji8
 simp only [Option.some.injEq,Prod.mk.injEq] at H
 obtain ⟨rfl,rfl⟩:=H
 go_enter Tryd.func78,Tryd.ntmps78
 try go_wp2_with (first|((with_reducible refine gd 2 rfl ?_);refine bx_ 2 105 #[.int .u64 a0,.int .u64 a2] rfl rfl ?_;intro gb0 hg w0 BK0 hb;have GE0:=bz HB hg;replace HB:=bs HB hb;clear hb hg)|((with_reducible refine gd 4 rfl ?_);refine bx_ 4 105 #[.int .u64 0,.int .u64 0] rfl rfl ?_;intro gb1 hg w2 BK1 hb;have GE1:=bz HB hg;have ⟨NB0,NB1⟩:=nb BK0 hg;replace BK0:=bb BK0 hb;replace HB:=bs HB hb;clear hb hg))
 replace BK0:=am (blk_drew BK0.out)
 replace BK1:=am (blk_drew BK1.out)
 replace HB:=am (below_drew1 HB.out)
 refine start_ (n:=16) (S:=fun w'=>c_ w' gb0 0 (.int .u64 a0)∧c_ w' gb0 1 (.int .u64 a2)) (ds:=[]) (m_ 16 0) (by kernel_rfl) rfl rfl ⟨ct BK0 0,ct BK0 1⟩ (fun hHeld=>?_);refine with_tabW frac_wide_down.tab3 frac_wide_down.bits3 (fun HT_ HW_=>?_)
 generalize w2.drew=w3 at BK0 BK1 HB hHeld ⊢
 refine pu_ 0 (some 13) (m_ 16 1) rfl rfl (ao HT_) ?_
 refine pu_ 2 (some 15) (m_ 16 5) rfl rfl (ao HT_) ?_
 refine pu_ 4 (some 17) (m_ 16 21) rfl rfl (ao HT_) ?_
 refine pu_ 6 (some 19) (m_ 16 85) rfl rfl (ao HT_) ?_
 refine pu_ 8 (some 21) (m_ 16 341) rfl rfl (ao HT_) ?_
 refine pu_ 10 (some 23) (m_ 16 1365) rfl rfl (ao HT_) ?_
 refine pu_ 11 (some 24) (m_ 16 3413) rfl rfl (ao HT_) ?_
 refine tk_ 1 (some 14) (m_ 16 3415) rfl rfl (tw HT_ HW_) hHeld ?_
 refine pu_ 3 (some 16) (m_ 16 3423) rfl rfl (ao HT_) ?_
 refine tk_ 5 (some 18) (m_ 16 3455) rfl rfl (tw HT_ HW_) hHeld ?_
 refine pu_ 7 (some 20) (m_ 16 3583) rfl rfl (ao HT_) ?_
 refine tk_ 9 (some 22) (m_ 16 4095) rfl rfl (tw HT_ HW_) hHeld ?_
 refine pu_ 12 (some 25) (m_ 16 8191) rfl rfl (ao HT_) ?_
 refine pu_ 13 (some 26) (m_ 16 16383) rfl rfl (ao HT_) ?_
 refine pu_ 14 (some 27) (m_ 16 32767) rfl rfl (ao HT_) ?_
 refine o1_ 15 (none) (m_ 16 65535) rfl rfl (oo HT_) (fun K hK=>?_)
 have hs0:c_ w3 gb1 0 (.int .u64 0):=ct BK1 0
 have hfs0:=blk_frozen BK1.out 0
 have hns0:=nn NB0
 have hs1:c_ w3 gb1 1 (.int .u64 0):=ct BK1 1
 have hfs1:=blk_frozen BK1.out 1
 have hns1:=nn NB0
 refine skip_ (w1:=?_) (by rfl) rfl ?_ ?_
 rotate_left;{
 go_simp
 rfl}
 refine hK.out _ _ (by obtain ⟨d0,d1⟩:=hHeld;exact ⟨fa_ NB0 (fa_ NB0 d0),fa_ NB0 (fa_ NB0 d1)⟩) (fun hHeld=>?_)
 clear hK K
 refine done_ (done_of HT_.out (by kernel_rfl)) ?_
 try go_wp2
 refine bodyPost_ret (results_cell_row rfl _ _ gb1 105 #[.int .u64 ji0,.int .u64 (Go.bits .or .u64 (ji1) (ji3))] (0,0) _ rfl (br_ BK1) Tryd.underlying105 rfl (by kernel_rfl)) rfl ?_
 exact ⟨by first|rfl|(simp [errW_none,errW_some]<;>rfl)|(simp only [← hji1,← hji3,← hji7,← hji8];first|rfl|(simp [errW_none,errW_some]<;>rfl))|(simp [*,errW_none,errW_some]<;>rfl),bf HB⟩};{
 rw [if_neg c9] at H
 exact absurd H (by simp)}};{
 rw [if_neg c4] at H
 exact absurd H (by simp)}}
def frac_wide_up.T3:Bool × List (List Nat × List Nat):=(true,[([],[]),([0],[0]),([],[]),([1,2],[1,2]),([],[]),([4],[4]),([],[]),([6],[6]),([5,7],[5,7]),([3,8],[3,8]),([],[]),([10],[10]),([],[]),([11,12],[11,12]),([9,13],[9,13]),([14,0,1,2,3,4,5,6,7,8,9,10,11,12,13,14],[14])])
def frac_wide_up.B3:List Nat:=[0,1,0,7,0,16,0,64,240,511,0,1024,0,7168,16383,32767]
theorem frac_wide_up.tab3:rtab .any (opsOf Tryd.f79 3)=frac_wide_up.T3:=by kernel_rfl
theorem frac_wide_up.bits3:waitsOk frac_wide_up.T3.2 frac_wide_up.B3=true:=by kernel_rfl
theorem frac_wide_up.calls (a0:Int) (a2:Int) (a1:Int) (r1:Int) (r2:Int) (w:World) (h:frac_wide_up.f a0 a2 a1=some (r1,r2)) :
  Calls Tryd.prog 79 #[.agg #[.int .u64 a0,.int .u64 a2],.int .i64 a1] w fun e w'=>e=.returned (.agg #[.int .u64 r1,.int .u64 r2])∧Below w.heap.size w w':=by
 have hu0:=Tryd.underlying105
 have HB:=am (Below.refl w.heap.size w)
 have H:(if a1≥64 then (if 0≤(wrap64 (a1-64)) then (some (shl .u64 a2 (wrap64 (a1-64)),0)) else (none)) else (if 0≤a1 then (if 0≤(wrap64 (64-a1)) then (some (Go.bits .or .u64 (shl .u64 a0 a1) (shr .u64 a2 (wrap64 (64-a1))),shl .u64 a2 a1)) else (none)) else (none)))=some (r1,r2):=h
 clear h
 by_cases c3:a1≥64;{
 rw [if_pos c3] at H
 have c0:decide (64≤a1)=true:=decide_eq_true c3
 clear c3
 obtain ⟨ji4,hji4⟩:∃ j_:Int,(wrap64 (a1-64))=j_:=⟨_,rfl⟩
 replace H:(if 0≤(ji4) then (some (shl .u64 a2 (ji4),0)) else (none))=some (r1,r2):=by first|(rw [hji4] at H;exact H)|(simp only [hji4] at H ⊢;exact H)
 have hji4w:(IntKind.i64.wrap (a1-64))=ji4:=(i64_w _).trans hji4
 by_cases c5:0≤(ji4);{
 rw [if_pos c5] at H
 have c1:=eq_true c5
 have c2:decide (0≤(ji4))=true:=decide_eq_true c5
 clear c5
 obtain ⟨ji6,hji6⟩:∃ j_:Int,(shl .u64 a2 (ji4))=j_:=⟨_,rfl⟩
 replace H:(some (ji6,0))=some (r1,r2):=by first|(rw [hji6] at H;exact H)|(simp only [hji6] at H ⊢;exact H)
 have hji0:(IntKind.u64.wrap (a2*2 ^ min (ji4).toNat 64))=ji6:=hji6
 have hji6z:(ji4)≤64→(IntKind.u64.wrap (a2*2 ^ (ji4).toNat))=ji6:=shl_small hji6
 simp only [Option.some.injEq,Prod.mk.injEq] at H
 obtain ⟨rfl,rfl⟩:=H
 go_enter Tryd.func79,Tryd.ntmps79
 go_wp2_with (first|((with_reducible refine gd 2 rfl ?_);refine bx_ 2 105 #[.int .u64 a0,.int .u64 a2] rfl rfl ?_;intro gb0 hg w7 BK0 hb;have GE0:=bz HB hg;replace HB:=bs HB hb;clear hb hg)|((with_reducible refine gd 4 rfl ?_);refine bx_ 4 105 #[.int .u64 0,.int .u64 0] rfl rfl ?_;intro gb1 hg w8 BK1 hb;have GE1:=bz HB hg;have ⟨NB0,NB1⟩:=nb BK0 hg;replace BK0:=bb BK0 hb;replace HB:=bs HB hb;clear hb hg;have hnb9:=nn NB0;have hcz0:=X.k2 BK0;have hcz1:=X.k2 BK1))
 refine bodyPost_ret (results_cell_row rfl _ _ gb1 105 #[.int .u64 ji6,.int .u64 0] (0,0) _ rfl (br_ BK1) Tryd.underlying105 rfl (by kernel_rfl)) rfl ?_
 exact ⟨by first|rfl|(simp [errW_none,errW_some]<;>rfl)|(simp only [← hji4,← hji6];first|rfl|(simp [errW_none,errW_some]<;>rfl))|(simp [*,errW_none,errW_some]<;>rfl),bf HB⟩};{
 rw [if_neg c5] at H
 exact absurd H (by simp)}};{
 rw [if_neg c3] at H
 have c0:decide (64≤a1)=false:=decide_eq_false c3
 clear c3
 by_cases c4:0≤a1;{
 rw [if_pos c4] at H
 have c6:=eq_true c4
 have c7:decide (0≤a1)=true:=decide_eq_true c4
 clear c4
 obtain ⟨ji0,hji1⟩:∃ j_:Int,(shl .u64 a0 a1)=j_:=⟨_,rfl⟩
 replace H:(if 0≤(wrap64 (64-a1)) then (some (Go.bits .or .u64 (ji0) (shr .u64 a2 (wrap64 (64-a1))),shl .u64 a2 a1)) else (none))=some (r1,r2):=by first|(rw [hji1] at H;exact H)|(simp only [hji1] at H ⊢;exact H)
 have hji2:(IntKind.u64.wrap (a0*2 ^ min a1.toNat 64))=ji0:=hji1
 have hji13z:a1≤64→(IntKind.u64.wrap (a0*2 ^ a1.toNat))=ji0:=shl_small hji1
 obtain ⟨ji1,hji3⟩:∃ j_:Int,(wrap64 (64-a1))=j_:=⟨_,rfl⟩
 replace H:(if 0≤(ji1) then (some (Go.bits .or .u64 (ji0) (shr .u64 a2 (ji1)),shl .u64 a2 a1)) else (none))=some (r1,r2):=by first|(rw [hji3] at H;exact H)|(simp only [hji3] at H ⊢;exact H)
 have hji14w:(IntKind.i64.wrap (64-a1))=ji1:=(i64_w _).trans hji3
 by_cases c8:0≤(ji1);{
 rw [if_pos c8] at H
 have c9:=eq_true c8
 have c10:decide (0≤(ji1))=true:=decide_eq_true c8
 clear c8
 obtain ⟨ji2,hji5⟩:∃ j_:Int,(shr .u64 a2 (ji1))=j_:=⟨_,rfl⟩
 replace H:(some (Go.bits .or .u64 (ji0) (ji2),shl .u64 a2 a1))=some (r1,r2):=by first|(rw [hji5] at H;exact H)|(simp only [hji5] at H ⊢;exact H)
 have hji7:(a2 / 2 ^ min (ji1).toNat 64)=ji2:=hji5
 have hji16z:(ji1)≤64→(a2 / 2 ^ (ji1).toNat)=ji2:=shr_small hji5
 have c11:=eq_true (od_:0≤a1)
 obtain ⟨ji3,hji8⟩:∃ j_:Int,(shl .u64 a2 a1)=j_:=⟨_,rfl⟩
 replace H:(some (Go.bits .or .u64 (ji0) (ji2),ji3))=some (r1,r2):=by first|(rw [hji8] at H;exact H)|(simp only [hji8] at H ⊢;exact H)
 have hji9:(IntKind.u64.wrap (a2*2 ^ min a1.toNat 64))=ji3:=hji8
 have hji18z:a1≤64→(IntKind.u64.wrap (a2*2 ^ a1.toNat))=ji3:=shl_small hji8
 simp only [Option.some.injEq,Prod.mk.injEq] at H
 obtain ⟨rfl,rfl⟩:=H
 go_enter Tryd.func79,Tryd.ntmps79
 try go_wp2_with (first|((with_reducible refine gd 2 rfl ?_);refine bx_ 2 105 #[.int .u64 a0,.int .u64 a2] rfl rfl ?_;intro gb0 hg w0 BK0 hb;have GE0:=bz HB hg;replace HB:=bs HB hb;clear hb hg)|((with_reducible refine gd 4 rfl ?_);refine bx_ 4 105 #[.int .u64 0,.int .u64 0] rfl rfl ?_;intro gb1 hg w2 BK1 hb;have GE1:=bz HB hg;have ⟨NB0,NB1⟩:=nb BK0 hg;replace BK0:=bb BK0 hb;replace HB:=bs HB hb;clear hb hg))
 replace BK0:=am (blk_drew BK0.out)
 replace BK1:=am (blk_drew BK1.out)
 replace HB:=am (below_drew1 HB.out)
 refine start_ (n:=16) (S:=fun w'=>c_ w' gb0 0 (.int .u64 a0)∧c_ w' gb0 1 (.int .u64 a2)) (ds:=[]) (m_ 16 0) (by kernel_rfl) rfl rfl ⟨ct BK0 0,ct BK0 1⟩ (fun hHeld=>?_);refine with_tabW frac_wide_up.tab3 frac_wide_up.bits3 (fun HT_ HW_=>?_)
 generalize w2.drew=w3 at BK0 BK1 HB hHeld ⊢
 refine pu_ 0 (some 13) (m_ 16 1) rfl rfl (ao HT_) ?_
 refine pu_ 2 (some 15) (m_ 16 5) rfl rfl (ao HT_) ?_
 refine pu_ 4 (some 17) (m_ 16 21) rfl rfl (ao HT_) ?_
 refine pu_ 6 (some 19) (m_ 16 85) rfl rfl (ao HT_) ?_
 refine pu_ 7 (some 20) (m_ 16 213) rfl rfl (ao HT_) ?_
 refine pu_ 10 (some 23) (m_ 16 1237) rfl rfl (ao HT_) ?_
 refine pu_ 12 (some 25) (m_ 16 5333) rfl rfl (ao HT_) ?_
 refine tk_ 1 (some 14) (m_ 16 5335) rfl rfl (tw HT_ HW_) hHeld ?_
 refine pu_ 3 (some 16) (m_ 16 5343) rfl rfl (ao HT_) ?_
 refine tk_ 5 (some 18) (m_ 16 5375) rfl rfl (tw HT_ HW_) hHeld ?_
 refine pu_ 8 (some 21) (m_ 16 5631) rfl rfl (ao HT_) ?_
 refine pu_ 9 (some 22) (m_ 16 6143) rfl rfl (ao HT_) ?_
 refine tk_ 11 (some 24) (m_ 16 8191) rfl rfl (tw HT_ HW_) hHeld ?_
 refine pu_ 13 (some 26) (m_ 16 16383) rfl rfl (ao HT_) ?_
 refine pu_ 14 (some 27) (m_ 16 32767) rfl rfl (ao HT_) ?_
 refine o1_ 15 (none) (m_ 16 65535) rfl rfl (oo HT_) (fun K hK=>?_)
 have hs0:c_ w3 gb1 0 (.int .u64 0):=ct BK1 0
 have hfs0:=blk_frozen BK1.out 0
 have hns0:=nn NB0
 have hs1:c_ w3 gb1 1 (.int .u64 0):=ct BK1 1
 have hfs1:=blk_frozen BK1.out 1
 have hns1:=nn NB0
 refine skip_ (w1:=?_) (by rfl) rfl ?_ ?_
 rotate_left;{
 go_simp
 rfl}
 refine hK.out _ _ (by obtain ⟨d0,d1⟩:=hHeld;exact ⟨fa_ NB0 (fa_ NB0 d0),fa_ NB0 (fa_ NB0 d1)⟩) (fun hHeld=>?_)
 clear hK K
 refine done_ (done_of HT_.out (by kernel_rfl)) ?_
 try go_wp2
 refine bodyPost_ret (results_cell_row rfl _ _ gb1 105 #[.int .u64 (Go.bits .or .u64 (ji0) (ji2)),.int .u64 ji3] (0,0) _ rfl (br_ BK1) Tryd.underlying105 rfl (by kernel_rfl)) rfl ?_
 exact ⟨by first|rfl|(simp [errW_none,errW_some]<;>rfl)|(simp only [← hji1,← hji3,← hji5,← hji8];first|rfl|(simp [errW_none,errW_some]<;>rfl))|(simp [*,errW_none,errW_some]<;>rfl),bf HB⟩};{
 rw [if_neg c8] at H
 exact absurd H (by simp)}};{
 rw [if_neg c4] at H
 exact absurd H (by simp)}}
end Go.Proofs.YtenphnkiacfmiaaDoor.X
