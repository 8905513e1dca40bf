/- Walks: each '.calls' says that the Go function comes to what its Lean function tells. Conditions: as each theorem's head says. -/
import Derived.Test.YtenphnkiacfmiaaDoorXD
import Derived.Test.YtenphnkiacfmiaaDoorX0
import Derived.Test.YtenphnkiacfmiaaDoorX9
import Derived.Test.YtenphnkiacfmiaaDoorX10
namespace Go.Proofs.YtenphnkiacfmiaaDoor.X
open Go.RowKit Go.Proofs.YtenphnkiacfmiaaDoorW.PrintWords Go.Proofs.YtenphnkiacfmiaaDoorW.PrintLast Go.Proofs.YtenphnkiacfmiaaDoorW.PrintMore
attribute [local go_sem] max2_int min2_int max_two min_two max_three min_three max_four min_four
set_option linter.unusedVariables false
set_option maxHeartbeats 8000000
set_option maxRecDepth 100000
set_option linter.unusedSimpArgs false
def frac_reduced.T2:Bool × List (List Nat × List Nat):=(true,[([],[]),([0],[0]),([],[]),([1,2],[1,2]),([],[]),([4],[4]),([],[]),([5,6,3],[5,6]),([0,1,2,3],[]),([8,3,7,0,1,2,3],[3,8]),([0,1,2,3,4,5,6,7,8,9],[]),([10,7,9,0,1,2,3,4,5,6,7,8,9],[7,10])])
def frac_reduced.B2:List Nat:=[0,1,0,7,0,16,0,127,15,511,1023,2047]
theorem frac_reduced.tab2:rtab .any (opsOf Tryd.f62 2)=frac_reduced.T2:=by kernel_rfl
theorem frac_reduced.bits2:waitsOk frac_reduced.T2.2 frac_reduced.B2=true:=by kernel_rfl
theorem frac_reduced.calls (k:Nat) (a0:Bool) (a1:Int) (a2:Int) (a3:Bool) (a4:Int) (a5:Int) (r1:Int) (r2:Int) (r3:Int) (w:World) (h:frac_reduced.f k a0 a1 a2 a3 a4 a5=some (r1,r2,r3)) (hT:TabOK w) :
  Calls Tryd.prog 62 #[.agg #[.bool a0,.int .u64 a1,.int .u64 a2],.agg #[.bool a3,.int .u64 a4,.int .u64 a5]] w fun e w'=>e=.returned (.tuple #[.agg #[.int .i64 r1,.int .i64 r2],.int .i64 r3])∧Below w.heap.size w w':=by
 have GT:=am hT
 clear hT
 have hu0:=Tryd.underlying107
 have hu1:=Tryd.underlying36
 have hu2:=Tryd.underlying105
 have HB:=am (Below.refl w.heap.size w)
 have H:((frac_gcd.f k a1 a2 a4 a5).bind fun bt0=>((frac_wide_over.f k a1 a2 bt0.1 bt0.2).bind fun bt1=>((frac_wide_over.f k a4 a5 bt0.1 bt0.2).bind fun bt2=>((frac_signed_whole.f (a0 != a3) bt1.1 bt1.2).bind fun bt3=>((frac_signed_whole.f false bt2.1 bt2.2).bind fun bt4=>(if bt3.2=true then (if bt4.2=true then (some (bt3.1,bt4.1,0)) else (some (0,0,2))) else (some (0,0,2))))))))=some (r1,r2,r3):=h
 clear h
 replace H:=bi_ H;obtain ⟨⟨t0,t1⟩,A3,H⟩:=H
 (try dsimp only at H)
 replace H:=bi_ H;obtain ⟨⟨t2,t3⟩,A4,H⟩:=H
 (try dsimp only at H)
 replace H:=bi_ H;obtain ⟨⟨t4,t5⟩,A5,H⟩:=H
 (try dsimp only at H)
 replace H:=bi_ H;obtain ⟨⟨t6,t7⟩,A6,H⟩:=H
 (try dsimp only at H)
 replace H:=bi_ H;obtain ⟨⟨t8,t9⟩,A7,H⟩:=H
 (try dsimp only at H)
 by_cases c8:t7=true;{
 subst c8
 have H1:(if t9=true then (some (t6,t8,0)) else (some (0,0,2)))=some (r1,r2,r3):=by rw [if_pos rfl] at H;exact H
 clear H
 have H:=H1
 clear H1
 by_cases c9:t9=true;{
 subst c9
 have H1:(some (t6,t8,0))=some (r1,r2,r3):=by rw [if_pos rfl] at H;exact H
 clear H
 have H:=H1
 clear H1
 simp only [Option.some.injEq,Prod.mk.injEq] at H
 obtain ⟨rfl,rfl,rfl⟩:=H
 go_enter Tryd.func62,Tryd.ntmps62
 try go_wp2_with (first|((with_reducible refine gd 2 rfl ?_);refine bx_ 2 107 #[.bool a0,.int .u64 a1,.int .u64 a2] rfl rfl ?_;intro gb0 hg w0 BK0 hb;have GE0:=bz HB hg;replace HB:=bs HB hb;clear hb hg)|((with_reducible refine gd 3 rfl ?_);refine bx_ 3 107 #[.bool a3,.int .u64 a4,.int .u64 a5] rfl rfl ?_;intro gb1 hg w2 BK1 hb;have GE1:=bz HB hg;have ⟨NB0,NB1⟩:=nb BK0 hg;replace BK0:=bb BK0 hb;replace HB:=bs HB hb;clear hb hg)|((with_reducible refine gd 4 rfl ?_);refine bx_ 4 36 #[.int .i64 0,.int .i64 0] rfl rfl ?_;intro gb2 hg w3 BK2 hb;have GE2:=bz HB hg;have ⟨NB2,NB3⟩:=nb BK0 hg;have ⟨NB4,NB5⟩:=nb BK1 hg;replace BK0:=bb BK0 hb;replace BK1:=bb BK1 hb;replace HB:=bs HB hb;clear hb hg;have hnb0:=nn NB0;have hnb1:=nn NB2;have hcz0:=X.k3 BK0;have hnb2:=nn NB4;have hcz1:=X.k3 BK1)|((with_reducible refine gc 68 rfl ?_);refine gm_ (some 15) rfl rfl Tryd.func68 (frac_gcd.calls _ _ _ _ _ _ _ _ A3.out (tt GT)) ag ?_;intro w4 hb;replace BK0:=bb BK0 hb;replace BK1:=bb BK1 hb;replace BK2:=bb BK2 hb;replace HB:=bs HB hb;(try clear hb))|((with_reducible refine gd 6 rfl ?_);refine bx_ 6 105 #[.int .u64 0,.int .u64 0] rfl rfl ?_;intro gb3 hg w5 BK3 hb;have GE3:=bz HB hg;have ⟨NB6,NB7⟩:=nb BK0 hg;have ⟨NB8,NB9⟩:=nb BK1 hg;have ⟨NB10,NB11⟩:=nb BK2 hg;replace BK0:=bb BK0 hb;replace BK1:=bb BK1 hb;replace BK2:=bb BK2 hb;replace HB:=bs HB hb;clear hb hg;have hnb3:=nn NB7;have hnb4:=nn NB9;have hnb5:=nn NB11;have hcz2:=X.k2 BK3))
 have n0:Aside0 (((w5.setCell ⟨gb3,0,none⟩ (.int .u64 t0)).setCell ⟨gb3,1,none⟩ (.int .u64 t1)).heap[gb0]?=some (.cells #[.bool a0,.int .u64 a1,.int .u64 a2] 107 (0,0))):=bu_ BK0
 have n1:Aside0 (((w5.setCell ⟨gb3,0,none⟩ (.int .u64 t0)).setCell ⟨gb3,1,none⟩ (.int .u64 t1)).heap[gb1]?=some (.cells #[.bool a3,.int .u64 a4,.int .u64 a5] 107 (0,0))):=bu_ BK1
 have n2:Aside0 (((w5.setCell ⟨gb3,0,none⟩ (.int .u64 t0)).setCell ⟨gb3,1,none⟩ (.int .u64 t1)).heap[gb2]?=some (.cells #[.int .i64 0,.int .i64 0] 36 (0,0))):=bu_ BK2
 have n3:Aside0 (((w5.setCell ⟨gb3,0,none⟩ (.int .u64 t0)).setCell ⟨gb3,1,none⟩ (.int .u64 t1)).heap[gb3]?=some (.cells #[.int .u64 t0,.int .u64 t1] 105 (0,0))):=bq_ BK3
 have n4:Aside0 (Below w.heap.size w ((w5.setCell ⟨gb3,0,none⟩ (.int .u64 t0)).setCell ⟨gb3,1,none⟩ (.int .u64 t1))):=⟨bf HB⟩
 (try clear BK0);(try clear BK1);(try clear BK2);(try clear BK3);(try clear HB)
 generalize ((w5.setCell ⟨gb3,0,none⟩ (.int .u64 t0)).setCell ⟨gb3,1,none⟩ (.int .u64 t1))=w6 at n0 n1 n2 n3 n4 ⊢
 have BK0:=n0
 have BK1:=n1
 have BK2:=n2
 have BK3:=n3
 have HB:=n4
 clear n0 n1 n2 n3 n4
 replace BK0:=am (blk_drew BK0.out)
 replace BK1:=am (blk_drew BK1.out)
 replace BK2:=am (blk_drew BK2.out)
 replace BK3:=am (blk_drew BK3.out)
 replace HB:=am (below_drew1 HB.out)
 refine start_ (n:=12) (S:=fun w'=>c_ w' gb0 0 (.bool a0)∧c_ w' gb0 1 (.int .u64 a1)∧c_ w' gb0 2 (.int .u64 a2)∧c_ w' gb3 0 (.int .u64 t0)∧c_ w' gb3 1 (.int .u64 t1)∧c_ w' gb1 0 (.bool a3)∧c_ w' gb1 1 (.int .u64 a4)∧c_ w' gb1 2 (.int .u64 a5)) (ds:=[9,11]) (m_ 12 0) (by kernel_rfl) rfl rfl ⟨ct BK0 0,ct BK0 1,ct BK0 2,ct BK3 0,ct BK3 1,ct BK1 0,ct BK1 1,ct BK1 2⟩ (fun hHeld=>?_);refine with_tabW frac_reduced.tab2 frac_reduced.bits2 (fun HT_ HW_=>?_)
 generalize w6.drew=w7 at BK0 BK1 BK2 BK3 HB hHeld ⊢
 refine pu_ 0 (some 16) (m_ 12 1) rfl rfl (ao HT_) ?_
 refine pu_ 4 (some 20) (m_ 12 17) rfl rfl (ao HT_) ?_
 refine tk_ 1 (some 17) (m_ 12 19) rfl rfl (tw HT_ HW_) hHeld ?_
 refine tk_ 2 (some 18) (m_ 12 23) rfl rfl (tw HT_ HW_) hHeld ?_
 refine tk_ 5 (some 21) (m_ 12 55) rfl rfl (tw HT_ HW_) hHeld ?_
 refine tk_ 6 (some 22) (m_ 12 119) rfl rfl (tw HT_ HW_) hHeld ?_
 refine o1_ 3 (some 19) (m_ 12 127) rfl rfl (oo HT_) (fun K hK=>?_)
 refine gs_ rfl Tryd.func69 (frac_wide_over.calls _ _ _ _ _ _ _ _ A4.out) ag ?_
 intro w8 hb
 replace BK0:=bb BK0 hb
 replace BK1:=bb BK1 hb
 replace BK2:=bb BK2 hb
 replace BK3:=bb BK3 hb
 replace HB:=bs HB hb
 (try clear hb)
 refine hK.out _ _ ⟨ct BK0 0,ct BK0 1,ct BK0 2,ct BK3 0,ct BK3 1,ct BK1 0,ct BK1 1,ct BK1 2⟩ (fun hHeld=>?_)
 clear hK K
 refine nr_ (some 19) ?_
 refine pu_ 8 (some 24) (m_ 12 383) rfl rfl (ao HT_) ?_
 refine o1_ 7 (some 23) (m_ 12 511) rfl rfl (oo HT_) (fun K hK=>?_)
 refine gs_ rfl Tryd.func69 (frac_wide_over.calls _ _ _ _ _ _ _ _ A5.out) ag ?_
 intro w9 hb
 replace BK0:=bb BK0 hb
 replace BK1:=bb BK1 hb
 replace BK2:=bb BK2 hb
 replace BK3:=bb BK3 hb
 replace HB:=bs HB hb
 (try clear hb)
 refine hK.out _ _ ⟨ct BK0 0,ct BK0 1,ct BK0 2,ct BK3 0,ct BK3 1,ct BK1 0,ct BK1 1,ct BK1 2⟩ (fun hHeld=>?_)
 clear hK K
 refine nr_ (some 23) ?_
 refine last_ (i:=9) (N:=none) (m_ 12 1023) rfl rfl (one_of HT_.out (by kernel_rfl)) (by decide) (fun K hK=>?_)
 have hs0:c_ w9 gb0 1 (.int .u64 a1):=ct BK0 1
 have hfs0:=blk_frozen BK0.out 1
 have hns0:=NB1.out
 have hns1:=NB3.out
 have hns2:=NB7.out
 have hms0:=NB0.out
 have hms1:=NB2.out
 have hms2:=NB6.out
 have hs1:c_ w9 gb0 2 (.int .u64 a2):=ct BK0 2
 have hfs1:=blk_frozen BK0.out 2
 have hns3:=NB1.out
 have hns4:=NB3.out
 have hns5:=NB7.out
 have hms3:=NB0.out
 have hms4:=NB2.out
 have hms5:=NB6.out
 refine skip_ (w1:=?_) (by rfl) rfl ?_ ?_
 rotate_left;{
 go_simp
 rfl}
 refine hK.out _ _ ?_
 clear hK K
 refine pu_ 10 (some 25) (m_ 12 2047) rfl rfl (ao HT_) ?_
 refine last_ (i:=11) (N:=none) (m_ 12 4095) rfl rfl (one_of HT_.out (by kernel_rfl)) (by decide) (fun K hK=>?_)
 have hs2:c_ w9 gb1 1 (.int .u64 a4):=ct BK1 1
 have hfs2:=blk_frozen BK1.out 1
 have hns6:=NB0.out
 have hns7:=NB5.out
 have hns8:=NB9.out
 have hms6:=NB1.out
 have hms7:=NB4.out
 have hms8:=NB8.out
 have hs3:c_ w9 gb1 2 (.int .u64 a5):=ct BK1 2
 have hfs3:=blk_frozen BK1.out 2
 have hns9:=NB0.out
 have hns10:=NB5.out
 have hns11:=NB9.out
 have hms9:=NB1.out
 have hms10:=NB4.out
 have hms11:=NB8.out
 refine skip_ (w1:=?_) (by rfl) rfl ?_ ?_
 rotate_left;{
 go_simp
 rfl}
 refine hK.out _ _ ?_
 clear hK K
 refine done_ (done_of HT_.out (by kernel_rfl)) ?_
 have hcz3:=X.k3 BK0
 have hcz4:=X.k3 BK1
 try go_wp2_with (first|((with_reducible refine gc 70 rfl ?_);refine gm_ (some 35) rfl rfl Tryd.func70 (frac_signed_whole.calls (a0 != a3) _ _ _ _ _ A6.out) ag ?_;intro w34 hb;replace BK0:=bp_ #[.bool (a0 != a3),.int .u64 t2,.int .u64 t3] BK0 hb;replace BK1:=bp_ #[.bool false,.int .u64 t4,.int .u64 t5] BK1 hb;replace BK2:=bb BK2 hb;replace HB:=bs HB hb;(try clear hb);have hcz5:=X.k3 BK1)|((with_reducible refine gc 70 rfl ?_);refine gm_ (some 40) rfl rfl Tryd.func70 (frac_signed_whole.calls _ _ _ _ _ _ A7.out) ag ?_;intro w36 hb;replace BK2:=bb BK2 hb;replace HB:=bs HB hb;(try clear hb);have hcz6:=X.k2 BK2))
 refine bodyPost_ret (results_ct rfl _ _ gb2 36 #[.int .i64 t6,.int .i64 t8] (0,0) _ rfl (br_ BK2) Tryd.underlying36 rfl (by kernel_rfl)) rfl ?_
 exact ⟨ae,bf HB⟩};{
 replace c9:=Bool.eq_false_iff.mpr c9
 subst c9
 have H1:(some (0,0,2))=some (r1,r2,r3):=by rw [if_neg (show ¬ (false=true) by decide)] at H;exact H
 clear H
 have H:=H1
 clear H1
 simp only [Option.some.injEq,Prod.mk.injEq] at H
 obtain ⟨rfl,rfl,rfl⟩:=H
 go_enter Tryd.func62,Tryd.ntmps62
 try go_wp2_with (first|((with_reducible refine gd 2 rfl ?_);refine bx_ 2 107 #[.bool a0,.int .u64 a1,.int .u64 a2] rfl rfl ?_;intro gb0 hg w38 BK0 hb;have GE0:=bz HB hg;replace HB:=bs HB hb;clear hb hg)|((with_reducible refine gd 3 rfl ?_);refine bx_ 3 107 #[.bool a3,.int .u64 a4,.int .u64 a5] rfl rfl ?_;intro gb1 hg w39 BK1 hb;have GE1:=bz HB hg;have ⟨NB0,NB1⟩:=nb BK0 hg;replace BK0:=bb BK0 hb;replace HB:=bs HB hb;clear hb hg)|((with_reducible refine gd 4 rfl ?_);refine bx_ 4 36 #[.int .i64 0,.int .i64 0] rfl rfl ?_;intro gb2 hg w40 BK2 hb;have GE2:=bz HB hg;have ⟨NB2,NB3⟩:=nb BK0 hg;have ⟨NB4,NB5⟩:=nb BK1 hg;replace BK0:=bb BK0 hb;replace BK1:=bb BK1 hb;replace HB:=bs HB hb;clear hb hg;have hnb6:=nn NB0;have hnb7:=nn NB2;have hcz7:=X.k3 BK0;have hnb8:=nn NB4;have hcz8:=X.k3 BK1)|((with_reducible refine gc 68 rfl ?_);refine gm_ (some 15) rfl rfl Tryd.func68 (frac_gcd.calls _ _ _ _ _ _ _ _ A3.out (tt GT)) ag ?_;intro w46 hb;replace BK0:=bb BK0 hb;replace BK1:=bb BK1 hb;replace BK2:=bb BK2 hb;replace HB:=bs HB hb;(try clear hb))|((with_reducible refine gd 6 rfl ?_);refine bx_ 6 105 #[.int .u64 0,.int .u64 0] rfl rfl ?_;intro gb3 hg w47 BK3 hb;have GE3:=bz HB hg;have ⟨NB6,NB7⟩:=nb BK0 hg;have ⟨NB8,NB9⟩:=nb BK1 hg;have ⟨NB10,NB11⟩:=nb BK2 hg;replace BK0:=bb BK0 hb;replace BK1:=bb BK1 hb;replace BK2:=bb BK2 hb;replace HB:=bs HB hb;clear hb hg;have hnb9:=nn NB7;have hnb49:=nn NB9;have hnb50:=nn NB11;have hcz9:=X.k2 BK3))
 have n0:Aside0 (((w47.setCell ⟨gb3,0,none⟩ (.int .u64 t0)).setCell ⟨gb3,1,none⟩ (.int .u64 t1)).heap[gb0]?=some (.cells #[.bool a0,.int .u64 a1,.int .u64 a2] 107 (0,0))):=bu_ BK0
 have n1:Aside0 (((w47.setCell ⟨gb3,0,none⟩ (.int .u64 t0)).setCell ⟨gb3,1,none⟩ (.int .u64 t1)).heap[gb1]?=some (.cells #[.bool a3,.int .u64 a4,.int .u64 a5] 107 (0,0))):=bu_ BK1
 have n2:Aside0 (((w47.setCell ⟨gb3,0,none⟩ (.int .u64 t0)).setCell ⟨gb3,1,none⟩ (.int .u64 t1)).heap[gb2]?=some (.cells #[.int .i64 0,.int .i64 0] 36 (0,0))):=bu_ BK2
 have n3:Aside0 (((w47.setCell ⟨gb3,0,none⟩ (.int .u64 t0)).setCell ⟨gb3,1,none⟩ (.int .u64 t1)).heap[gb3]?=some (.cells #[.int .u64 t0,.int .u64 t1] 105 (0,0))):=bq_ BK3
 have n4:Aside0 (Below w.heap.size w ((w47.setCell ⟨gb3,0,none⟩ (.int .u64 t0)).setCell ⟨gb3,1,none⟩ (.int .u64 t1))):=⟨bf HB⟩
 (try clear BK0);(try clear BK1);(try clear BK2);(try clear BK3);(try clear HB)
 generalize ((w47.setCell ⟨gb3,0,none⟩ (.int .u64 t0)).setCell ⟨gb3,1,none⟩ (.int .u64 t1))=w52 at n0 n1 n2 n3 n4 ⊢
 have BK0:=n0
 have BK1:=n1
 have BK2:=n2
 have BK3:=n3
 have HB:=n4
 clear n0 n1 n2 n3 n4
 replace BK0:=am (blk_drew BK0.out)
 replace BK1:=am (blk_drew BK1.out)
 replace BK2:=am (blk_drew BK2.out)
 replace BK3:=am (blk_drew BK3.out)
 replace HB:=am (below_drew1 HB.out)
 refine start_ (n:=12) (S:=fun w'=>c_ w' gb0 0 (.bool a0)∧c_ w' gb0 1 (.int .u64 a1)∧c_ w' gb0 2 (.int .u64 a2)∧c_ w' gb3 0 (.int .u64 t0)∧c_ w' gb3 1 (.int .u64 t1)∧c_ w' gb1 0 (.bool a3)∧c_ w' gb1 1 (.int .u64 a4)∧c_ w' gb1 2 (.int .u64 a5)) (ds:=[9,11]) (m_ 12 0) (by kernel_rfl) rfl rfl ⟨ct BK0 0,ct BK0 1,ct BK0 2,ct BK3 0,ct BK3 1,ct BK1 0,ct BK1 1,ct BK1 2⟩ (fun hHeld=>?_);refine with_tabW frac_reduced.tab2 frac_reduced.bits2 (fun HT_ HW_=>?_)
 generalize w52.drew=w53 at BK0 BK1 BK2 BK3 HB hHeld ⊢
 refine pu_ 0 (some 16) (m_ 12 1) rfl rfl (ao HT_) ?_
 refine pu_ 4 (some 20) (m_ 12 17) rfl rfl (ao HT_) ?_
 refine tk_ 1 (some 17) (m_ 12 19) rfl rfl (tw HT_ HW_) hHeld ?_
 refine tk_ 2 (some 18) (m_ 12 23) rfl rfl (tw HT_ HW_) hHeld ?_
 refine tk_ 5 (some 21) (m_ 12 55) rfl rfl (tw HT_ HW_) hHeld ?_
 refine tk_ 6 (some 22) (m_ 12 119) rfl rfl (tw HT_ HW_) hHeld ?_
 refine o1_ 3 (some 19) (m_ 12 127) rfl rfl (oo HT_) (fun K hK=>?_)
 refine gs_ rfl Tryd.func69 (frac_wide_over.calls _ _ _ _ _ _ _ _ A4.out) ag ?_
 intro w54 hb
 replace BK0:=bb BK0 hb
 replace BK1:=bb BK1 hb
 replace BK2:=bb BK2 hb
 replace BK3:=bb BK3 hb
 replace HB:=bs HB hb
 (try clear hb)
 refine hK.out _ _ ⟨ct BK0 0,ct BK0 1,ct BK0 2,ct BK3 0,ct BK3 1,ct BK1 0,ct BK1 1,ct BK1 2⟩ (fun hHeld=>?_)
 clear hK K
 refine nr_ (some 19) ?_
 refine pu_ 8 (some 24) (m_ 12 383) rfl rfl (ao HT_) ?_
 refine o1_ 7 (some 23) (m_ 12 511) rfl rfl (oo HT_) (fun K hK=>?_)
 refine gs_ rfl Tryd.func69 (frac_wide_over.calls _ _ _ _ _ _ _ _ A5.out) ag ?_
 intro w55 hb
 replace BK0:=bb BK0 hb
 replace BK1:=bb BK1 hb
 replace BK2:=bb BK2 hb
 replace BK3:=bb BK3 hb
 replace HB:=bs HB hb
 (try clear hb)
 refine hK.out _ _ ⟨ct BK0 0,ct BK0 1,ct BK0 2,ct BK3 0,ct BK3 1,ct BK1 0,ct BK1 1,ct BK1 2⟩ (fun hHeld=>?_)
 clear hK K
 refine nr_ (some 23) ?_
 refine last_ (i:=9) (N:=none) (m_ 12 1023) rfl rfl (one_of HT_.out (by kernel_rfl)) (by decide) (fun K hK=>?_)
 have hs4:c_ w55 gb0 1 (.int .u64 a1):=ct BK0 1
 have hfs4:=blk_frozen BK0.out 1
 have hns12:=NB1.out
 have hns13:=NB3.out
 have hns14:=NB7.out
 have hms12:=NB0.out
 have hms13:=NB2.out
 have hms14:=NB6.out
 have hs5:c_ w55 gb0 2 (.int .u64 a2):=ct BK0 2
 have hfs5:=blk_frozen BK0.out 2
 have hns15:=NB1.out
 have hns16:=NB3.out
 have hns17:=NB7.out
 have hms15:=NB0.out
 have hms16:=NB2.out
 have hms17:=NB6.out
 refine skip_ (w1:=?_) (by rfl) rfl ?_ ?_
 rotate_left;{
 go_simp
 rfl}
 refine hK.out _ _ ?_
 clear hK K
 refine pu_ 10 (some 25) (m_ 12 2047) rfl rfl (ao HT_) ?_
 refine last_ (i:=11) (N:=none) (m_ 12 4095) rfl rfl (one_of HT_.out (by kernel_rfl)) (by decide) (fun K hK=>?_)
 have hs6:c_ w55 gb1 1 (.int .u64 a4):=ct BK1 1
 have hfs6:=blk_frozen BK1.out 1
 have hns18:=NB0.out
 have hns19:=NB5.out
 have hns20:=NB9.out
 have hms18:=NB1.out
 have hms19:=NB4.out
 have hms20:=NB8.out
 have hs7:c_ w55 gb1 2 (.int .u64 a5):=ct BK1 2
 have hfs7:=blk_frozen BK1.out 2
 have hns21:=NB0.out
 have hns22:=NB5.out
 have hns23:=NB9.out
 have hms21:=NB1.out
 have hms22:=NB4.out
 have hms23:=NB8.out
 refine skip_ (w1:=?_) (by rfl) rfl ?_ ?_
 rotate_left;{
 go_simp
 rfl}
 refine hK.out _ _ ?_
 clear hK K
 refine done_ (done_of HT_.out (by kernel_rfl)) ?_
 have hcz60:=X.k3 BK0
 have hcz61:=X.k3 BK1
 try go_wp2_with (first|((with_reducible refine gc 70 rfl ?_);refine gm_ (some 35) rfl rfl Tryd.func70 (frac_signed_whole.calls (a0 != a3) _ _ _ _ _ A6.out) ag ?_;intro w62 hb;replace BK0:=bp_ #[.bool (a0 != a3),.int .u64 t2,.int .u64 t3] BK0 hb;replace BK1:=bp_ #[.bool false,.int .u64 t4,.int .u64 t5] BK1 hb;replace BK2:=bb BK2 hb;replace HB:=bs HB hb;(try clear hb);have hcz63:=X.k3 BK1)|((with_reducible refine gc 70 rfl ?_);refine gm_ (some 40) rfl rfl Tryd.func70 (frac_signed_whole.calls _ _ _ _ _ _ A7.out) ag ?_;intro w64 hb;replace BK2:=bb BK2 hb;replace HB:=bs HB hb;(try clear hb);have hcz65:=X.k2 BK2))
 refine bodyPost_ret (results_ct rfl _ _ gb2 36 #[.int .i64 0,.int .i64 0] (0,0) _ rfl (br_ BK2) Tryd.underlying36 rfl (by kernel_rfl)) rfl ?_
 exact ⟨ae,bf HB⟩}};{
 replace c8:=Bool.eq_false_iff.mpr c8
 subst c8
 have H1:(some (0,0,2))=some (r1,r2,r3):=by rw [if_neg (show ¬ (false=true) by decide)] at H;exact H
 clear H
 have H:=H1
 clear H1
 simp only [Option.some.injEq,Prod.mk.injEq] at H
 obtain ⟨rfl,rfl,rfl⟩:=H
 go_enter Tryd.func62,Tryd.ntmps62
 try go_wp2_with (first|((with_reducible refine gd 2 rfl ?_);refine bx_ 2 107 #[.bool a0,.int .u64 a1,.int .u64 a2] rfl rfl ?_;intro gb0 hg w66 BK0 hb;have GE0:=bz HB hg;replace HB:=bs HB hb;clear hb hg)|((with_reducible refine gd 3 rfl ?_);refine bx_ 3 107 #[.bool a3,.int .u64 a4,.int .u64 a5] rfl rfl ?_;intro gb1 hg w67 BK1 hb;have GE1:=bz HB hg;have ⟨NB0,NB1⟩:=nb BK0 hg;replace BK0:=bb BK0 hb;replace HB:=bs HB hb;clear hb hg)|((with_reducible refine gd 4 rfl ?_);refine bx_ 4 36 #[.int .i64 0,.int .i64 0] rfl rfl ?_;intro gb2 hg w68 BK2 hb;have GE2:=bz HB hg;have ⟨NB2,NB3⟩:=nb BK0 hg;have ⟨NB4,NB5⟩:=nb BK1 hg;replace BK0:=bb BK0 hb;replace BK1:=bb BK1 hb;replace HB:=bs HB hb;clear hb hg;have hnb69:=nn NB0;have hnb70:=nn NB2;have hcz71:=X.k3 BK0;have hnb72:=nn NB4;have hcz73:=X.k3 BK1)|((with_reducible refine gc 68 rfl ?_);refine gm_ (some 15) rfl rfl Tryd.func68 (frac_gcd.calls _ _ _ _ _ _ _ _ A3.out (tt GT)) ag ?_;intro w74 hb;replace BK0:=bb BK0 hb;replace BK1:=bb BK1 hb;replace BK2:=bb BK2 hb;replace HB:=bs HB hb;(try clear hb))|((with_reducible refine gd 6 rfl ?_);refine bx_ 6 105 #[.int .u64 0,.int .u64 0] rfl rfl ?_;intro gb3 hg w75 BK3 hb;have GE3:=bz HB hg;have ⟨NB6,NB7⟩:=nb BK0 hg;have ⟨NB8,NB9⟩:=nb BK1 hg;have ⟨NB10,NB11⟩:=nb BK2 hg;replace BK0:=bb BK0 hb;replace BK1:=bb BK1 hb;replace BK2:=bb BK2 hb;replace HB:=bs HB hb;clear hb hg;have hnb76:=nn NB7;have hnb77:=nn NB9;have hnb78:=nn NB11;have hcz79:=X.k2 BK3))
 have n0:Aside0 (((w75.setCell ⟨gb3,0,none⟩ (.int .u64 t0)).setCell ⟨gb3,1,none⟩ (.int .u64 t1)).heap[gb0]?=some (.cells #[.bool a0,.int .u64 a1,.int .u64 a2] 107 (0,0))):=bu_ BK0
 have n1:Aside0 (((w75.setCell ⟨gb3,0,none⟩ (.int .u64 t0)).setCell ⟨gb3,1,none⟩ (.int .u64 t1)).heap[gb1]?=some (.cells #[.bool a3,.int .u64 a4,.int .u64 a5] 107 (0,0))):=bu_ BK1
 have n2:Aside0 (((w75.setCell ⟨gb3,0,none⟩ (.int .u64 t0)).setCell ⟨gb3,1,none⟩ (.int .u64 t1)).heap[gb2]?=some (.cells #[.int .i64 0,.int .i64 0] 36 (0,0))):=bu_ BK2
 have n3:Aside0 (((w75.setCell ⟨gb3,0,none⟩ (.int .u64 t0)).setCell ⟨gb3,1,none⟩ (.int .u64 t1)).heap[gb3]?=some (.cells #[.int .u64 t0,.int .u64 t1] 105 (0,0))):=bq_ BK3
 have n4:Aside0 (Below w.heap.size w ((w75.setCell ⟨gb3,0,none⟩ (.int .u64 t0)).setCell ⟨gb3,1,none⟩ (.int .u64 t1))):=⟨bf HB⟩
 (try clear BK0);(try clear BK1);(try clear BK2);(try clear BK3);(try clear HB)
 generalize ((w75.setCell ⟨gb3,0,none⟩ (.int .u64 t0)).setCell ⟨gb3,1,none⟩ (.int .u64 t1))=w80 at n0 n1 n2 n3 n4 ⊢
 have BK0:=n0
 have BK1:=n1
 have BK2:=n2
 have BK3:=n3
 have HB:=n4
 clear n0 n1 n2 n3 n4
 replace BK0:=am (blk_drew BK0.out)
 replace BK1:=am (blk_drew BK1.out)
 replace BK2:=am (blk_drew BK2.out)
 replace BK3:=am (blk_drew BK3.out)
 replace HB:=am (below_drew1 HB.out)
 refine start_ (n:=12) (S:=fun w'=>c_ w' gb0 0 (.bool a0)∧c_ w' gb0 1 (.int .u64 a1)∧c_ w' gb0 2 (.int .u64 a2)∧c_ w' gb3 0 (.int .u64 t0)∧c_ w' gb3 1 (.int .u64 t1)∧c_ w' gb1 0 (.bool a3)∧c_ w' gb1 1 (.int .u64 a4)∧c_ w' gb1 2 (.int .u64 a5)) (ds:=[9,11]) (m_ 12 0) (by kernel_rfl) rfl rfl ⟨ct BK0 0,ct BK0 1,ct BK0 2,ct BK3 0,ct BK3 1,ct BK1 0,ct BK1 1,ct BK1 2⟩ (fun hHeld=>?_);refine with_tabW frac_reduced.tab2 frac_reduced.bits2 (fun HT_ HW_=>?_)
 generalize w80.drew=w81 at BK0 BK1 BK2 BK3 HB hHeld ⊢
 refine pu_ 0 (some 16) (m_ 12 1) rfl rfl (ao HT_) ?_
 refine pu_ 4 (some 20) (m_ 12 17) rfl rfl (ao HT_) ?_
 refine tk_ 1 (some 17) (m_ 12 19) rfl rfl (tw HT_ HW_) hHeld ?_
 refine tk_ 2 (some 18) (m_ 12 23) rfl rfl (tw HT_ HW_) hHeld ?_
 refine tk_ 5 (some 21) (m_ 12 55) rfl rfl (tw HT_ HW_) hHeld ?_
 refine tk_ 6 (some 22) (m_ 12 119) rfl rfl (tw HT_ HW_) hHeld ?_
 refine o1_ 3 (some 19) (m_ 12 127) rfl rfl (oo HT_) (fun K hK=>?_)
 refine gs_ rfl Tryd.func69 (frac_wide_over.calls _ _ _ _ _ _ _ _ A4.out) ag ?_
 intro w82 hb
 replace BK0:=bb BK0 hb
 replace BK1:=bb BK1 hb
 replace BK2:=bb BK2 hb
 replace BK3:=bb BK3 hb
 replace HB:=bs HB hb
 (try clear hb)
 refine hK.out _ _ ⟨ct BK0 0,ct BK0 1,ct BK0 2,ct BK3 0,ct BK3 1,ct BK1 0,ct BK1 1,ct BK1 2⟩ (fun hHeld=>?_)
 clear hK K
 refine nr_ (some 19) ?_
 refine pu_ 8 (some 24) (m_ 12 383) rfl rfl (ao HT_) ?_
 refine o1_ 7 (some 23) (m_ 12 511) rfl rfl (oo HT_) (fun K hK=>?_)
 refine gs_ rfl Tryd.func69 (frac_wide_over.calls _ _ _ _ _ _ _ _ A5.out) ag ?_
 intro w83 hb
 replace BK0:=bb BK0 hb
 replace BK1:=bb BK1 hb
 replace BK2:=bb BK2 hb
 replace BK3:=bb BK3 hb
 replace HB:=bs HB hb
 (try clear hb)
 refine hK.out _ _ ⟨ct BK0 0,ct BK0 1,ct BK0 2,ct BK3 0,ct BK3 1,ct BK1 0,ct BK1 1,ct BK1 2⟩ (fun hHeld=>?_)
 clear hK K
 refine nr_ (some 23) ?_
 refine last_ (i:=9) (N:=none) (m_ 12 1023) rfl rfl (one_of HT_.out (by kernel_rfl)) (by decide) (fun K hK=>?_)
 have hs8:c_ w83 gb0 1 (.int .u64 a1):=ct BK0 1
 have hfs8:=blk_frozen BK0.out 1
 have hns24:=NB1.out
 have hns25:=NB3.out
 have hns26:=NB7.out
 have hms24:=NB0.out
 have hms25:=NB2.out
 have hms26:=NB6.out
 have hs9:c_ w83 gb0 2 (.int .u64 a2):=ct BK0 2
 have hfs9:=blk_frozen BK0.out 2
 have hns27:=NB1.out
 have hns28:=NB3.out
 have hns29:=NB7.out
 have hms27:=NB0.out
 have hms28:=NB2.out
 have hms29:=NB6.out
 refine skip_ (w1:=?_) (by rfl) rfl ?_ ?_
 rotate_left;{
 go_simp
 rfl}
 refine hK.out _ _ ?_
 clear hK K
 refine pu_ 10 (some 25) (m_ 12 2047) rfl rfl (ao HT_) ?_
 refine last_ (i:=11) (N:=none) (m_ 12 4095) rfl rfl (one_of HT_.out (by kernel_rfl)) (by decide) (fun K hK=>?_)
 have hs86:c_ w83 gb1 1 (.int .u64 a4):=ct BK1 1
 have hfs86:=blk_frozen BK1.out 1
 have hns30:=NB0.out
 have hns31:=NB5.out
 have hns32:=NB9.out
 have hms30:=NB1.out
 have hms31:=NB4.out
 have hms32:=NB8.out
 have hs87:c_ w83 gb1 2 (.int .u64 a5):=ct BK1 2
 have hfs87:=blk_frozen BK1.out 2
 have hns33:=NB0.out
 have hns34:=NB5.out
 have hns35:=NB9.out
 have hms33:=NB1.out
 have hms34:=NB4.out
 have hms35:=NB8.out
 refine skip_ (w1:=?_) (by rfl) rfl ?_ ?_
 rotate_left;{
 go_simp
 rfl}
 refine hK.out _ _ ?_
 clear hK K
 refine done_ (done_of HT_.out (by kernel_rfl)) ?_
 have hcz88:=X.k3 BK0
 have hcz89:=X.k3 BK1
 try go_wp2_with (first|((with_reducible refine gc 70 rfl ?_);refine gm_ (some 35) rfl rfl Tryd.func70 (frac_signed_whole.calls (a0 != a3) _ _ _ _ _ A6.out) ag ?_;intro w90 hb;replace BK0:=bp_ #[.bool (a0 != a3),.int .u64 t2,.int .u64 t3] BK0 hb;replace BK1:=bp_ #[.bool false,.int .u64 t4,.int .u64 t5] BK1 hb;replace BK2:=bb BK2 hb;replace HB:=bs HB hb;(try clear hb);have hcz91:=X.k3 BK1)|((with_reducible refine gc 70 rfl ?_);refine gm_ (some 40) rfl rfl Tryd.func70 (frac_signed_whole.calls _ _ _ _ _ _ A7.out) ag ?_;intro w92 hb;replace BK2:=bb BK2 hb;replace HB:=bs HB hb;(try clear hb);have hcz93:=X.k2 BK2))
 refine bodyPost_ret (results_ct rfl _ _ gb2 36 #[.int .i64 0,.int .i64 0] (0,0) _ rfl (br_ BK2) Tryd.underlying36 rfl (by kernel_rfl)) rfl ?_
 exact ⟨ae,bf HB⟩}
theorem bits_Add64.calls (a0 a1 a2 r1 r2:Int) (w:World) (h:bits_Add64.f a0 a1 a2=some (r1,r2)) :
  XCalls Tryd.prog 81 #[.int .u64 a0,.int .u64 a1,.int .u64 a2] w fun e w'=>e=.returned (.tuple #[.int .u64 r1,.int .u64 r2])∧w=w':=by
 unfold bits_Add64.f at h
 by_cases c:0≤a0∧0≤a1∧0≤a2∧a2≤1;{
 rw [if_pos c] at h
 simp only [Option.some.injEq,Prod.mk.injEq] at h
 obtain ⟨rfl,rfl⟩:=h
 refine ⟨_,?_,rfl,rfl⟩
 rw [run_callFunc_extern Tryd.func81 (by kernel_rfl) (by kernel_rfl) (by kernel_rfl) (e:=add64Entry) (by kernel_rfl),run_add64 a0 a1 a2 c.1 c.2.1 c.2.2.1 c.2.2.2]
 rfl};{
 rw [if_neg c] at h
 cases h}
theorem frac_wide_plus.calls (a0:Int) (a1:Int) (a2:Int) (a3:Int) (r1:Int) (r2:Int) (w:World) (h:frac_wide_plus.f a0 a1 a2 a3=some (r1,r2)) :
  Calls Tryd.prog 71 #[.agg #[.int .u64 a0,.int .u64 a1],.agg #[.int .u64 a2,.int .u64 a3]] w fun e w'=>e=.returned (.agg #[.int .u64 r1,.int .u64 r2])∧Below w.heap.size w w':=by
 have hu0:=Tryd.underlying105
 have HB:=am (Below.refl w.heap.size w)
 have H:((bits_Add64.f a1 a3 0).bind fun bt0=>((bits_Add64.f a0 a2 bt0.2).bind fun bt1=>(some (bt1.1,bt0.1))))=some (r1,r2):=h
 clear h
 replace H:=bi_ H;obtain ⟨⟨t0,t1⟩,A3,H⟩:=H
 (try dsimp only at H)
 replace H:=bi_ H;obtain ⟨⟨t2,t3⟩,A4,H⟩:=H
 (try dsimp only at H)
 simp only [Option.some.injEq,Prod.mk.injEq] at H
 obtain ⟨rfl,rfl⟩:=H
 go_enter Tryd.func71,Tryd.ntmps71
 go_wp2_with (first|((with_reducible refine gd 2 rfl ?_);refine bx_ 2 105 #[.int .u64 a0,.int .u64 a1] rfl rfl ?_;intro gb0 hg w5 BK0 hb;have GE0:=bz HB hg;replace HB:=bs HB hb;clear hb hg)|((with_reducible refine gd 3 rfl ?_);refine bx_ 3 105 #[.int .u64 a2,.int .u64 a3] rfl rfl ?_;intro gb1 hg w6 BK1 hb;have GE1:=bz HB hg;have ⟨NB0,NB1⟩:=nb BK0 hg;replace BK0:=bb BK0 hb;replace HB:=bs HB hb;clear hb hg)|((with_reducible refine gd 4 rfl ?_);refine bx_ 4 105 #[.int .u64 0,.int .u64 0] rfl rfl ?_;intro gb2 hg w7 BK2 hb;have GE2:=bz HB hg;have ⟨NB2,NB3⟩:=nb BK0 hg;have ⟨NB4,NB5⟩:=nb BK1 hg;replace BK0:=bb BK0 hb;replace BK1:=bb BK1 hb;replace HB:=bs HB hb;clear hb hg;have hnb8:=nn NB0;have hnb9:=nn NB2;have hcz0:=X.k2 BK0;have hnb0:=nn NB4;have hcz1:=X.k2 BK1)|((with_reducible refine gate_callee (f:=81) rfl ?_);refine goesX_ (some 14) rfl rfl #[.int .u64 a1,.int .u64 a3,.int .u64 0] rfl ag ?_;(with_reducible refine (bits_Add64.calls _ _ _ _ _ _ A3.out).mono ?_);rintro e w' ⟨rfl,rfl⟩;refine ⟨_,rfl,?_⟩;(try (rw [drewN_self w7];generalize hq_:World.drewN w7 _=w7;have n0:Aside0 (w7.heap[gb0]?=some (.cells #[.int .u64 a0,.int .u64 a1] 105 (0,0))):=⟨by rw [← hq_];exact (bx BK0)⟩;have n1:Aside0 (w7.heap[gb1]?=some (.cells #[.int .u64 a2,.int .u64 a3] 105 (0,0))):=⟨by rw [← hq_];exact (bx BK1)⟩;have n2:Aside0 (w7.heap[gb2]?=some (.cells #[.int .u64 0,.int .u64 0] 105 (0,0))):=⟨by rw [← hq_];exact (bx BK2)⟩;have n3:Aside0 (Below w.heap.size w w7):=⟨by rw [← hq_];exact (bf HB)⟩;clear BK0 BK1 BK2 HB hq_;have BK0:=n0;have BK1:=n1;have BK2:=n2;have HB:=n3;clear n0 n1 n2 n3)))|((with_reducible refine gate_callee (f:=81) rfl ?_);refine goesX_ (some 23) rfl rfl #[.int .u64 a0,.int .u64 a2,.int .u64 t1] rfl ag ?_;(with_reducible refine (bits_Add64.calls _ _ _ _ _ _ A4.out).mono ?_);rintro e w' ⟨rfl,rfl⟩;refine ⟨_,rfl,?_⟩;(try (rw [drewN_self w7];generalize hq_:World.drewN w7 _=w7;have n0:Aside0 (w7.heap[gb0]?=some (.cells #[.int .u64 a0,.int .u64 a1] 105 (0,0))):=⟨by rw [← hq_];exact (bx BK0)⟩;have n1:Aside0 (w7.heap[gb1]?=some (.cells #[.int .u64 a2,.int .u64 a3] 105 (0,0))):=⟨by rw [← hq_];exact (bx BK1)⟩;have n2:Aside0 (w7.heap[gb2]?=some (.cells #[.int .u64 0,.int .u64 0] 105 (0,0))):=⟨by rw [← hq_];exact (bx BK2)⟩;have n3:Aside0 (Below w.heap.size w w7):=⟨by rw [← hq_];exact (bf HB)⟩;clear BK0 BK1 BK2 HB hq_;have BK0:=n0;have BK1:=n1;have BK2:=n2;have HB:=n3;clear n0 n1 n2 n3));have hcz2:=X.k2 BK2))
 refine bodyPost_ret (results_cell_row rfl _ _ gb2 105 #[.int .u64 t2,.int .u64 t0] (0,0) _ rfl (br_ BK2) Tryd.underlying105 rfl (by kernel_rfl)) rfl ?_
 exact ⟨ae,bf HB⟩
end Go.Proofs.YtenphnkiacfmiaaDoor.X
