/- Walks: each '.calls' says that the Go function comes to what its Lean function tells. Conditions: as each theorem's head says. -/
import Derived.Test.YtenphnkiacfmiaaDoorXD
import Derived.Test.YtenphnkiacfmiaaDoorX0
import Derived.Test.YtenphnkiacfmiaaDoorX8
import Derived.Test.YtenphnkiacfmiaaDoorX11
namespace Go.Proofs.YtenphnkiacfmiaaDoor.X
open Go.RowKit Go.Proofs.YtenphnkiacfmiaaDoorW.PrintWords Go.Proofs.YtenphnkiacfmiaaDoorW.PrintLast Go.Proofs.YtenphnkiacfmiaaDoorW.PrintMore
attribute [local go_sem] max2_int min2_int max_two min_two max_three min_three max_four min_four
set_option linter.unusedVariables false
set_option maxHeartbeats 8000000
set_option maxRecDepth 100000
set_option linter.unusedSimpArgs false
def frac_signed_plus.T2:Bool × List (List Nat × List Nat):=(true,[([],[]),([0],[0]),([],[]),([2],[2]),([],[]),([4],[4]),([3,5],[3,5]),([1,6],[1,6]),([7,6,0,1,2,3,4,5,6,7],[7])])
def frac_signed_plus.B2:List Nat:=[0,1,0,4,0,16,60,127,255]
theorem frac_signed_plus.tab2:rtab .any (opsOf Tryd.f63 2)=frac_signed_plus.T2:=by kernel_rfl
theorem frac_signed_plus.bits2:waitsOk frac_signed_plus.T2.2 frac_signed_plus.B2=true:=by kernel_rfl
def frac_signed_plus.T4:Bool × List (List Nat × List Nat):=(true,[([],[]),([0],[0]),([],[]),([2],[2]),([],[]),([4],[4]),([3,5],[3,5]),([1,6],[1,6]),([7,6,0,1,2,3,4,5,6,7],[7])])
def frac_signed_plus.B4:List Nat:=[0,1,0,4,0,16,60,127,255]
theorem frac_signed_plus.tab4:rtab .any (opsOf Tryd.f63 4)=frac_signed_plus.T4:=by kernel_rfl
theorem frac_signed_plus.bits4:waitsOk frac_signed_plus.T4.2 frac_signed_plus.B4=true:=by kernel_rfl
def frac_signed_plus.T5:Bool × List (List Nat × List Nat):=(true,[([],[]),([0],[0]),([],[]),([2],[2]),([],[]),([4],[4]),([3,5],[3,5]),([1,6],[1,6]),([7,6,0,1,2,3,4,5,6,7],[7])])
def frac_signed_plus.B5:List Nat:=[0,1,0,4,0,16,60,127,255]
theorem frac_signed_plus.tab5:rtab .any (opsOf Tryd.f63 5)=frac_signed_plus.T5:=by kernel_rfl
theorem frac_signed_plus.bits5:waitsOk frac_signed_plus.T5.2 frac_signed_plus.B5=true:=by kernel_rfl
theorem frac_signed_plus.calls (a0:Bool) (a1:Int) (a2:Int) (a3:Bool) (a4:Int) (a5:Int) (r1:Bool) (r2:Int) (r3:Int) (w:World) (h:frac_signed_plus.f a0 a1 a2 a3 a4 a5=some (r1,r2,r3)) :
  Calls Tryd.prog 63 #[.agg #[.bool a0,.int .u64 a1,.int .u64 a2],.agg #[.bool a3,.int .u64 a4,.int .u64 a5]] w fun e w'=>e=.returned (.agg #[.bool r1,.int .u64 r2,.int .u64 r3])∧Below w.heap.size w w':=by
 have hu0:=Tryd.underlying107
 have hu1:=Tryd.underlying105
 have HB:=am (Below.refl w.heap.size w)
 have H:(if (a0==a3)=true then ((frac_wide_plus.f a1 a2 a4 a5).bind fun bt0=>(some (a0,bt0.1,bt0.2))) else ((frac_wide_cmp.f a1 a2 a4 a5).bind fun t0=>(if t0≥0 then ((frac_wide_minus.f a1 a2 a4 a5).bind fun bt1=>(some (a0,bt1.1,bt1.2))) else ((frac_wide_minus.f a4 a5 a1 a2).bind fun bt2=>(some (a3,bt2.1,bt2.2))))))=some (r1,r2,r3):=h
 clear h
 by_cases c3:(a0==a3)=true;{
 rw [if_pos c3] at H
 have c0:(a0==a3)=true:=c3
 (try (have c1:decide (a0=a3)=true:=by simpa using c3))
 (try (have c2:(a0==a3)=true:=by simpa using c3))
 clear c3
 replace H:=bi_ H;obtain ⟨⟨t1,t2⟩,A4,H⟩:=H
 (try dsimp only at H)
 simp only [Option.some.injEq,Prod.mk.injEq] at H
 obtain ⟨rfl,rfl,rfl⟩:=H
 go_enter Tryd.func63,Tryd.ntmps63
 try go_wp2_with (first|((with_reducible refine gd 2 rfl ?_);refine bx_ 2 107 #[.bool a0,.int .u64 a1,.int .u64 a2] rfl rfl ?_;intro gb0 hg w5 BK0 hb;have GE0:=bz HB hg;replace HB:=bs HB hb;clear hb hg)|((with_reducible refine gd 3 rfl ?_);refine bx_ 3 107 #[.bool a3,.int .u64 a4,.int .u64 a5] rfl rfl ?_;intro gb1 hg w6 BK1 hb;have GE1:=bz HB hg;have ⟨NB0,NB1⟩:=nb BK0 hg;replace BK0:=bb BK0 hb;replace HB:=bs HB hb;clear hb hg)|((with_reducible refine gd 4 rfl ?_);refine bx_ 4 107 #[.bool false,.int .u64 0,.int .u64 0] rfl rfl ?_;intro gb2 hg w7 BK2 hb;have GE2:=bz HB hg;have ⟨NB2,NB3⟩:=nb BK0 hg;have ⟨NB4,NB5⟩:=nb BK1 hg;replace BK0:=bb BK0 hb;replace BK1:=bb BK1 hb;replace HB:=bs HB hb;clear hb hg;have hnb8:=nn NB0;have hnb9:=nn NB2;have hcz0:=X.k3 BK0;have hnb0:=nn NB4;have hcz1:=X.k3 BK1))
 replace BK0:=am (blk_drew BK0.out)
 replace BK1:=am (blk_drew BK1.out)
 replace BK2:=am (blk_drew BK2.out)
 replace HB:=am (below_drew1 HB.out)
 refine start_ (n:=9) (S:=fun w'=>c_ w' gb0 0 (.bool a0)∧c_ w' gb0 1 (.int .u64 a1)∧c_ w' gb0 2 (.int .u64 a2)∧c_ w' gb1 0 (.bool a3)∧c_ w' gb1 1 (.int .u64 a4)∧c_ w' gb1 2 (.int .u64 a5)) (ds:=[]) (m_ 9 0) (by kernel_rfl) rfl rfl ⟨ct BK0 0,ct BK0 1,ct BK0 2,ct BK1 0,ct BK1 1,ct BK1 2⟩ (fun hHeld=>?_);refine with_tabW frac_signed_plus.tab2 frac_signed_plus.bits2 (fun HT_ HW_=>?_)
 generalize w7.drew=w0 at BK0 BK1 BK2 HB hHeld ⊢
 refine pu_ 0 (some 11) (m_ 9 1) rfl rfl (ao HT_) ?_
 refine pu_ 2 (some 13) (m_ 9 5) rfl rfl (ao HT_) ?_
 refine pu_ 4 (some 15) (m_ 9 21) rfl rfl (ao HT_) ?_
 refine tk_ 1 (some 12) (m_ 9 23) rfl rfl (tw HT_ HW_) hHeld ?_
 refine tk_ 3 (some 14) (m_ 9 31) rfl rfl (tw HT_ HW_) hHeld ?_
 refine tk_ 5 (some 16) (m_ 9 63) rfl rfl (tw HT_ HW_) hHeld ?_
 refine o1_ 6 (some 17) (m_ 9 127) rfl rfl (oo HT_) (fun K hK=>?_)
 refine gs_ rfl Tryd.func71 (frac_wide_plus.calls _ _ _ _ _ _ _ A4.out) ag ?_
 intro w2 hb
 replace BK0:=bb BK0 hb
 replace BK1:=bb BK1 hb
 replace BK2:=bb BK2 hb
 replace HB:=bs HB hb
 (try clear hb)
 refine hK.out _ _ ⟨ct BK0 0,ct BK0 1,ct BK0 2,ct BK1 0,ct BK1 1,ct BK1 2⟩ (fun hHeld=>?_)
 clear hK K
 refine nr_ (some 17) ?_
 refine pu_ 7 (some 18) (m_ 9 255) rfl rfl (ao HT_) ?_
 refine o1_ 8 (none) (m_ 9 511) rfl rfl (oo HT_) (fun K hK=>?_)
 have hs0:c_ w2 gb2 0 (.bool false):=ct BK2 0
 have hfs0:=blk_frozen BK2.out 0
 have hns0:=NB2.out
 have hns1:=NB4.out
 have hms0:=NB3.out
 have hms1:=NB5.out
 have hs1:c_ w2 gb2 1 (.int .u64 0):=ct BK2 1
 have hfs1:=blk_frozen BK2.out 1
 have hns2:=NB2.out
 have hns3:=NB4.out
 have hms2:=NB3.out
 have hms3:=NB5.out
 have hs2:c_ w2 gb2 2 (.int .u64 0):=ct BK2 2
 have hfs2:=blk_frozen BK2.out 2
 have hns4:=NB2.out
 have hns5:=NB4.out
 have hms4:=NB3.out
 have hms5:=NB5.out
 refine skip_ (w1:=?_) (by rfl) rfl ?_ ?_
 rotate_left;{
 go_simp
 rfl}
 refine hK.out _ _ (by obtain ⟨d0,d1,d2,d3,d4,d5⟩:=hHeld;exact ⟨fa_ NB2 (fa_ NB2 (fa_ NB2 d0)),fa_ NB2 (fa_ NB2 (fa_ NB2 d1)),fa_ NB2 (fa_ NB2 (fa_ NB2 d2)),fa_ NB4 (fa_ NB4 (fa_ NB4 d3)),fa_ NB4 (fa_ NB4 (fa_ NB4 d4)),fa_ NB4 (fa_ NB4 (fa_ NB4 d5))⟩) (fun hHeld=>?_)
 clear hK K
 refine done_ (done_of HT_.out (by kernel_rfl)) ?_
 try go_wp2
 refine bodyPost_ret (results_cell_row rfl _ _ gb2 107 #[.bool a0,.int .u64 t1,.int .u64 t2] (0,0) _ rfl (br_ BK2) Tryd.underlying107 rfl (by kernel_rfl)) rfl ?_
 exact ⟨ae,bf HB⟩};{
 rw [if_neg c3] at H
 have c0:(a0==a3)=false:=by simpa using c3
 (try (have c1:decide (a0=a3)=false:=by simpa using c3))
 (try (have c2:(a0==a3)=false:=by simpa using c3))
 (try (have c4:¬ (a0=a3):=by simpa using c3))
 clear c3
 replace H:=bi_ H;obtain ⟨t0,A0,H⟩:=H
 (try dsimp only at H)
 by_cases c5:t0≥0;{
 rw [if_pos c5] at H
 have c6:decide (0≤t0)=true:=decide_eq_true c5
 clear c5
 replace H:=bi_ H;obtain ⟨⟨t3,t4⟩,A1,H⟩:=H
 (try dsimp only at H)
 simp only [Option.some.injEq,Prod.mk.injEq] at H
 obtain ⟨rfl,rfl,rfl⟩:=H
 go_enter Tryd.func63,Tryd.ntmps63
 try go_wp2_with (first|((with_reducible refine gd 2 rfl ?_);refine bx_ 2 107 #[.bool a0,.int .u64 a1,.int .u64 a2] rfl rfl ?_;intro gb0 hg w3 BK0 hb;have GE0:=bz HB hg;replace HB:=bs HB hb;clear hb hg)|((with_reducible refine gd 3 rfl ?_);refine bx_ 3 107 #[.bool a3,.int .u64 a4,.int .u64 a5] rfl rfl ?_;intro gb1 hg w4 BK1 hb;have GE1:=bz HB hg;have ⟨NB0,NB1⟩:=nb BK0 hg;replace BK0:=bb BK0 hb;replace HB:=bs HB hb;clear hb hg)|((with_reducible refine gd 4 rfl ?_);refine bx_ 4 107 #[.bool false,.int .u64 0,.int .u64 0] rfl rfl ?_;intro gb2 hg w8 BK2 hb;have GE2:=bz HB hg;have ⟨NB2,NB3⟩:=nb BK0 hg;have ⟨NB4,NB5⟩:=nb BK1 hg;replace BK0:=bb BK0 hb;replace BK1:=bb BK1 hb;replace HB:=bs HB hb;clear hb hg;have hnb1:=nn NB0;have hnb2:=nn NB2;have hcz2:=X.k3 BK0;have hnb3:=nn NB4;have hcz3:=X.k3 BK1)|((with_reducible refine gc 72 rfl ?_);refine gm_ (some 24) rfl rfl Tryd.func72 (frac_wide_cmp.calls _ _ _ _ _ _ A0.out) ag ?_;intro w9 hb;replace BK0:=bb BK0 hb;replace BK1:=bb BK1 hb;replace BK2:=bb BK2 hb;replace HB:=bs HB hb;(try clear hb)))
 replace BK0:=am (blk_drew BK0.out)
 replace BK1:=am (blk_drew BK1.out)
 replace BK2:=am (blk_drew BK2.out)
 replace HB:=am (below_drew1 HB.out)
 refine start_ (n:=9) (S:=fun w'=>c_ w' gb0 0 (.bool a0)∧c_ w' gb0 1 (.int .u64 a1)∧c_ w' gb0 2 (.int .u64 a2)∧c_ w' gb1 0 (.bool a3)∧c_ w' gb1 1 (.int .u64 a4)∧c_ w' gb1 2 (.int .u64 a5)) (ds:=[]) (m_ 9 0) (by kernel_rfl) rfl rfl ⟨ct BK0 0,ct BK0 1,ct BK0 2,ct BK1 0,ct BK1 1,ct BK1 2⟩ (fun hHeld=>?_);refine with_tabW frac_signed_plus.tab4 frac_signed_plus.bits4 (fun HT_ HW_=>?_)
 generalize w9.drew=w30 at BK0 BK1 BK2 HB hHeld ⊢
 refine pu_ 0 (some 26) (m_ 9 1) rfl rfl (ao HT_) ?_
 refine pu_ 2 (some 28) (m_ 9 5) rfl rfl (ao HT_) ?_
 refine pu_ 4 (some 30) (m_ 9 21) rfl rfl (ao HT_) ?_
 refine tk_ 1 (some 27) (m_ 9 23) rfl rfl (tw HT_ HW_) hHeld ?_
 refine tk_ 3 (some 29) (m_ 9 31) rfl rfl (tw HT_ HW_) hHeld ?_
 refine tk_ 5 (some 31) (m_ 9 63) rfl rfl (tw HT_ HW_) hHeld ?_
 refine o1_ 6 (some 32) (m_ 9 127) rfl rfl (oo HT_) (fun K hK=>?_)
 refine gs_ rfl Tryd.func73 (frac_wide_minus.calls _ _ _ _ _ _ _ A1.out) ag ?_
 intro w31 hb
 replace BK0:=bb BK0 hb
 replace BK1:=bb BK1 hb
 replace BK2:=bb BK2 hb
 replace HB:=bs HB hb
 (try clear hb)
 refine hK.out _ _ ⟨ct BK0 0,ct BK0 1,ct BK0 2,ct BK1 0,ct BK1 1,ct BK1 2⟩ (fun hHeld=>?_)
 clear hK K
 refine nr_ (some 32) ?_
 refine pu_ 7 (some 33) (m_ 9 255) rfl rfl (ao HT_) ?_
 refine o1_ 8 (none) (m_ 9 511) rfl rfl (oo HT_) (fun K hK=>?_)
 have hs3:c_ w31 gb2 0 (.bool false):=ct BK2 0
 have hfs3:=blk_frozen BK2.out 0
 have hns6:=NB2.out
 have hns7:=NB4.out
 have hms6:=NB3.out
 have hms7:=NB5.out
 have hs4:c_ w31 gb2 1 (.int .u64 0):=ct BK2 1
 have hfs4:=blk_frozen BK2.out 1
 have hns8:=NB2.out
 have hns9:=NB4.out
 have hms8:=NB3.out
 have hms9:=NB5.out
 have hs5:c_ w31 gb2 2 (.int .u64 0):=ct BK2 2
 have hfs5:=blk_frozen BK2.out 2
 have hns10:=NB2.out
 have hns11:=NB4.out
 have hms10:=NB3.out
 have hms11:=NB5.out
 refine skip_ (w1:=?_) (by rfl) rfl ?_ ?_
 rotate_left;{
 go_simp
 rfl}
 refine hK.out _ _ (by obtain ⟨d0,d1,d2,d3,d4,d5⟩:=hHeld;exact ⟨fa_ NB2 (fa_ NB2 (fa_ NB2 d0)),fa_ NB2 (fa_ NB2 (fa_ NB2 d1)),fa_ NB2 (fa_ NB2 (fa_ NB2 d2)),fa_ NB4 (fa_ NB4 (fa_ NB4 d3)),fa_ NB4 (fa_ NB4 (fa_ NB4 d4)),fa_ NB4 (fa_ NB4 (fa_ NB4 d5))⟩) (fun hHeld=>?_)
 clear hK K
 refine done_ (done_of HT_.out (by kernel_rfl)) ?_
 try go_wp2
 refine bodyPost_ret (results_cell_row rfl _ _ gb2 107 #[.bool a0,.int .u64 t3,.int .u64 t4] (0,0) _ rfl (br_ BK2) Tryd.underlying107 rfl (by kernel_rfl)) rfl ?_
 exact ⟨ae,bf HB⟩};{
 rw [if_neg c5] at H
 have c6:decide (0≤t0)=false:=decide_eq_false c5
 clear c5
 replace H:=bi_ H;obtain ⟨⟨t5,t6⟩,A2,H⟩:=H
 (try dsimp only at H)
 simp only [Option.some.injEq,Prod.mk.injEq] at H
 obtain ⟨rfl,rfl,rfl⟩:=H
 go_enter Tryd.func63,Tryd.ntmps63
 try go_wp2_with (first|((with_reducible refine gd 2 rfl ?_);refine bx_ 2 107 #[.bool a0,.int .u64 a1,.int .u64 a2] rfl rfl ?_;intro gb0 hg w36 BK0 hb;have GE0:=bz HB hg;replace HB:=bs HB hb;clear hb hg)|((with_reducible refine gd 3 rfl ?_);refine bx_ 3 107 #[.bool a3,.int .u64 a4,.int .u64 a5] rfl rfl ?_;intro gb1 hg w37 BK1 hb;have GE1:=bz HB hg;have ⟨NB0,NB1⟩:=nb BK0 hg;replace BK0:=bb BK0 hb;replace HB:=bs HB hb;clear hb hg)|((with_reducible refine gd 4 rfl ?_);refine bx_ 4 107 #[.bool false,.int .u64 0,.int .u64 0] rfl rfl ?_;intro gb2 hg w38 BK2 hb;have GE2:=bz HB hg;have ⟨NB2,NB3⟩:=nb BK0 hg;have ⟨NB4,NB5⟩:=nb BK1 hg;replace BK0:=bb BK0 hb;replace BK1:=bb BK1 hb;replace HB:=bs HB hb;clear hb hg;have hnb4:=nn NB0;have hnb5:=nn NB2;have hcz4:=X.k3 BK0;have hnb6:=nn NB4;have hcz5:=X.k3 BK1)|((with_reducible refine gc 72 rfl ?_);refine gm_ (some 24) rfl rfl Tryd.func72 (frac_wide_cmp.calls _ _ _ _ _ _ A0.out) ag ?_;intro w44 hb;replace BK0:=bb BK0 hb;replace BK1:=bb BK1 hb;replace BK2:=bb BK2 hb;replace HB:=bs HB hb;(try clear hb)))
 replace BK0:=am (blk_drew BK0.out)
 replace BK1:=am (blk_drew BK1.out)
 replace BK2:=am (blk_drew BK2.out)
 replace HB:=am (below_drew1 HB.out)
 refine start_ (n:=9) (S:=fun w'=>c_ w' gb1 0 (.bool a3)∧c_ w' gb1 1 (.int .u64 a4)∧c_ w' gb1 2 (.int .u64 a5)∧c_ w' gb0 0 (.bool a0)∧c_ w' gb0 1 (.int .u64 a1)∧c_ w' gb0 2 (.int .u64 a2)) (ds:=[]) (m_ 9 0) (by kernel_rfl) rfl rfl ⟨ct BK1 0,ct BK1 1,ct BK1 2,ct BK0 0,ct BK0 1,ct BK0 2⟩ (fun hHeld=>?_);refine with_tabW frac_signed_plus.tab5 frac_signed_plus.bits5 (fun HT_ HW_=>?_)
 generalize w44.drew=w45 at BK0 BK1 BK2 HB hHeld ⊢
 refine pu_ 0 (some 34) (m_ 9 1) rfl rfl (ao HT_) ?_
 refine pu_ 2 (some 36) (m_ 9 5) rfl rfl (ao HT_) ?_
 refine pu_ 4 (some 38) (m_ 9 21) rfl rfl (ao HT_) ?_
 refine tk_ 1 (some 35) (m_ 9 23) rfl rfl (tw HT_ HW_) hHeld ?_
 refine tk_ 3 (some 37) (m_ 9 31) rfl rfl (tw HT_ HW_) hHeld ?_
 refine tk_ 5 (some 39) (m_ 9 63) rfl rfl (tw HT_ HW_) hHeld ?_
 refine o1_ 6 (some 40) (m_ 9 127) rfl rfl (oo HT_) (fun K hK=>?_)
 refine gs_ rfl Tryd.func73 (frac_wide_minus.calls _ _ _ _ _ _ _ A2.out) ag ?_
 intro w46 hb
 replace BK0:=bb BK0 hb
 replace BK1:=bb BK1 hb
 replace BK2:=bb BK2 hb
 replace HB:=bs HB hb
 (try clear hb)
 refine hK.out _ _ ⟨ct BK1 0,ct BK1 1,ct BK1 2,ct BK0 0,ct BK0 1,ct BK0 2⟩ (fun hHeld=>?_)
 clear hK K
 refine nr_ (some 40) ?_
 refine pu_ 7 (some 41) (m_ 9 255) rfl rfl (ao HT_) ?_
 refine o1_ 8 (none) (m_ 9 511) rfl rfl (oo HT_) (fun K hK=>?_)
 have hs6:c_ w46 gb2 0 (.bool false):=ct BK2 0
 have hfs6:=blk_frozen BK2.out 0
 have hns12:=NB2.out
 have hns13:=NB4.out
 have hms12:=NB3.out
 have hms13:=NB5.out
 have hs7:c_ w46 gb2 1 (.int .u64 0):=ct BK2 1
 have hfs7:=blk_frozen BK2.out 1
 have hns14:=NB2.out
 have hns15:=NB4.out
 have hms14:=NB3.out
 have hms15:=NB5.out
 have hs8:c_ w46 gb2 2 (.int .u64 0):=ct BK2 2
 have hfs8:=blk_frozen BK2.out 2
 have hns16:=NB2.out
 have hns17:=NB4.out
 have hms16:=NB3.out
 have hms17:=NB5.out
 refine skip_ (w1:=?_) (by rfl) rfl ?_ ?_
 rotate_left;{
 go_simp
 rfl}
 refine hK.out _ _ (by obtain ⟨d0,d1,d2,d3,d4,d5⟩:=hHeld;exact ⟨fa_ NB4 (fa_ NB4 (fa_ NB4 d0)),fa_ NB4 (fa_ NB4 (fa_ NB4 d1)),fa_ NB4 (fa_ NB4 (fa_ NB4 d2)),fa_ NB2 (fa_ NB2 (fa_ NB2 d3)),fa_ NB2 (fa_ NB2 (fa_ NB2 d4)),fa_ NB2 (fa_ NB2 (fa_ NB2 d5))⟩) (fun hHeld=>?_)
 clear hK K
 refine done_ (done_of HT_.out (by kernel_rfl)) ?_
 try go_wp2
 refine bodyPost_ret (results_cell_row rfl _ _ gb2 107 #[.bool a3,.int .u64 t5,.int .u64 t6] (0,0) _ rfl (br_ BK2) Tryd.underlying107 rfl (by kernel_rfl)) rfl ?_
 exact ⟨ae,bf HB⟩}}
theorem frac_Add_1.calls (a0:Bool) (a1:Int) (a2:Int) (r1:Bool) (r2:Int) (r3:Int) (w:World) (h:frac_Add_1.f a0 a1 a2=some (r1,r2,r3)) :
  Calls Tryd.prog 53 #[.agg #[.bool a0,.int .u64 a1,.int .u64 a2]] w fun e w'=>e=.returned (.agg #[.bool r1,.int .u64 r2,.int .u64 r3])∧Below w.heap.size w w':=by
 have hu0:=Tryd.underlying107
 have HB:=am (Below.refl w.heap.size w)
 have H:(some (a0,a1,a2))=some (r1,r2,r3):=h
 clear h
 simp only [Option.some.injEq,Prod.mk.injEq] at H
 obtain ⟨rfl,rfl,rfl⟩:=H
 go_enter Tryd.func53,Tryd.ntmps53
 go_wp2_with (first|((with_reducible refine gd 1 rfl ?_);refine bx_ 1 107 #[.bool a0,.int .u64 a1,.int .u64 a2] rfl rfl ?_;intro gb0 hg w2 BK0 hb;have GE0:=bz HB hg;replace HB:=bs HB hb;clear hb hg)|((with_reducible refine gd 2 rfl ?_);refine bx_ 2 107 #[.bool false,.int .u64 0,.int .u64 0] rfl rfl ?_;intro gb1 hg w3 BK1 hb;have GE1:=bz HB hg;have ⟨NB0,NB1⟩:=nb BK0 hg;replace BK0:=bb BK0 hb;replace HB:=bs HB hb;clear hb hg;have hnb4:=nn NB0;have hcz5:=X.k3 BK0;have hcz6:=X.k3 BK1))
 refine bodyPost_ret (results_cell_row rfl _ _ gb1 107 #[.bool a0,.int .u64 a1,.int .u64 a2] (0,0) _ rfl (br_ BK1) Tryd.underlying107 rfl (by kernel_rfl)) rfl ?_
 exact ⟨ae,bf HB⟩
end Go.Proofs.YtenphnkiacfmiaaDoor.X
