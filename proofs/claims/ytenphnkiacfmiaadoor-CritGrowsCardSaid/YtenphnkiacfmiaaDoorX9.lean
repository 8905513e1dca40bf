/- Walks: each '.calls' says that the Go function comes to what its Lean function tells. Conditions: as each theorem's head says. -/
import Derived.Test.YtenphnkiacfmiaaDoorXD
import Derived.Test.YtenphnkiacfmiaaDoorX0
import Derived.Test.YtenphnkiacfmiaaDoorX8
namespace Go.Proofs.YtenphnkiacfmiaaDoor.X
open Go.RowKit Go.Proofs.YtenphnkiacfmiaaDoorW.PrintWords Go.Proofs.YtenphnkiacfmiaaDoorW.PrintLast Go.Proofs.YtenphnkiacfmiaaDoorW.PrintMore
attribute [local go_sem] max2_int min2_int max_two min_two max_three min_three max_four min_four
set_option linter.unusedVariables false
set_option maxHeartbeats 8000000
set_option maxRecDepth 100000
set_option linter.unusedSimpArgs false
theorem frac_gcd.calls (k:Nat) (a0:Int) (a1:Int) (a2:Int) (a3:Int) (r1:Int) (r2:Int) (w:World) (h:frac_gcd.f k a0 a1 a2 a3=some (r1,r2)) (hT:TabOK w) :
  Calls Tryd.prog 68 #[.agg #[.int .u64 a0,.int .u64 a1],.agg #[.int .u64 a2,.int .u64 a3]] w fun e w'=>e=.returned (.agg #[.int .u64 r1,.int .u64 r2])∧Below w.heap.size w w':=by
 have GT:=am hT
 clear hT
 have hu0:=Tryd.underlying105
 have HB:=am (Below.refl w.heap.size w)
 have H:((frac_wide_zero.f a0 a1).bind fun t0=>(if t0=true then (some (a2,a3)) else ((frac_wide_zero.f a2 a3).bind fun t1=>(if t1=true then (some (a0,a1)) else ((frac_wide_twos.f a0 a1).bind fun t2=>((frac_wide_twos.f a2 a3).bind fun t3=>((frac_wide_twos.f a0 a1).bind fun t4=>((frac_wide_down.f a0 a1 t4).bind fun bt0=>(frac_gcd.l0 k (mn t2 t3) bt0.1 bt0.2 a2 a3)))))))))=some (r1,r2):=h
 clear h
 replace H:=bi_ H;obtain ⟨t0,A3,H⟩:=H
 (try dsimp only at H)
 by_cases c4:t0=true;{
 subst c4
 have H1:(some (a2,a3))=some (r1,r2):=by rw [if_pos rfl] at H;exact H
 clear H
 have H:=H1
 clear H1
 simp only [Option.some.injEq,Prod.mk.injEq] at H
 obtain ⟨rfl,rfl⟩:=H
 go_enter Tryd.func68,Tryd.ntmps68
 go_wp2_with (first|((with_reducible refine gd 2 rfl ?_);refine bx_ 2 105 #[.int .u64 a0,.int .u64 a1] rfl rfl ?_;intro gb0 hg w5 BK0 hb;have GE0:=bz HB hg;replace HB:=bs HB hb;clear hb hg)|((with_reducible refine gd 3 rfl ?_);refine bx_ 3 105 #[.int .u64 a2,.int .u64 a3] rfl rfl ?_;intro gb1 hg w6 BK1 hb;have GE1:=bz HB hg;have ⟨NB0,NB1⟩:=nb BK0 hg;replace BK0:=bb BK0 hb;replace HB:=bs HB hb;clear hb hg)|((with_reducible refine gd 4 rfl ?_);refine bx_ 4 105 #[.int .u64 0,.int .u64 0] rfl rfl ?_;intro gb2 hg w7 BK2 hb;have GE2:=bz HB hg;have ⟨NB2,NB3⟩:=nb BK0 hg;have ⟨NB4,NB5⟩:=nb BK1 hg;replace BK0:=bb BK0 hb;replace BK1:=bb BK1 hb;replace HB:=bs HB hb;clear hb hg;have hnb8:=nn NB0;have hnb9:=nn NB2;have hcz0:=X.k2 BK0)|((with_reducible refine gc 76 rfl ?_);refine gm_ (some 8) rfl rfl Tryd.func76 (frac_wide_zero.calls _ _ _ _ A3.out) ag ?_;intro w0 hb;replace BK1:=bb BK1 hb;replace BK2:=bb BK2 hb;replace HB:=bs HB hb;(try clear hb);have hnb0:=nn NB4;have hcz1:=X.k2 BK1;have hcz2:=X.k2 BK2))
 refine bodyPost_ret (results_cell_row rfl _ _ gb2 105 #[.int .u64 a2,.int .u64 a3] (0,0) _ rfl (br_ BK2) Tryd.underlying105 rfl (by kernel_rfl)) rfl ?_
 exact ⟨ae,bf HB⟩};{
 replace c4:=Bool.eq_false_iff.mpr c4
 subst c4
 have H1:((frac_wide_zero.f a2 a3).bind fun t1=>(if t1=true then (some (a0,a1)) else ((frac_wide_twos.f a0 a1).bind fun t2=>((frac_wide_twos.f a2 a3).bind fun t3=>((frac_wide_twos.f a0 a1).bind fun t4=>((frac_wide_down.f a0 a1 t4).bind fun bt0=>(frac_gcd.l0 k (mn t2 t3) bt0.1 bt0.2 a2 a3)))))))=some (r1,r2):=by rw [if_neg (show ¬ (false=true) by decide)] at H;exact H
 clear H
 have H:=H1
 clear H1
 replace H:=bi_ H;obtain ⟨t1,A0,H⟩:=H
 (try dsimp only at H)
 by_cases c0:t1=true;{
 subst c0
 have H1:(some (a0,a1))=some (r1,r2):=by rw [if_pos rfl] at H;exact H
 clear H
 have H:=H1
 clear H1
 simp only [Option.some.injEq,Prod.mk.injEq] at H
 obtain ⟨rfl,rfl⟩:=H
 go_enter Tryd.func68,Tryd.ntmps68
 go_wp2_with (first|((with_reducible refine gd 2 rfl ?_);refine bx_ 2 105 #[.int .u64 a0,.int .u64 a1] rfl rfl ?_;intro gb0 hg w2 BK0 hb;have GE0:=bz HB hg;replace HB:=bs HB hb;clear hb hg)|((with_reducible refine gd 3 rfl ?_);refine bx_ 3 105 #[.int .u64 a2,.int .u64 a3] rfl rfl ?_;intro gb1 hg w3 BK1 hb;have GE1:=bz HB hg;have ⟨NB0,NB1⟩:=nb BK0 hg;replace BK0:=bb BK0 hb;replace HB:=bs HB hb;clear hb hg)|((with_reducible refine gd 4 rfl ?_);refine bx_ 4 105 #[.int .u64 0,.int .u64 0] rfl rfl ?_;intro gb2 hg w4 BK2 hb;have GE2:=bz HB hg;have ⟨NB2,NB3⟩:=nb BK0 hg;have ⟨NB4,NB5⟩:=nb BK1 hg;replace BK0:=bb BK0 hb;replace BK1:=bb BK1 hb;replace HB:=bs HB hb;clear hb hg;have hnb1:=nn NB0;have hnb2:=nn NB2;have hcz3:=X.k2 BK0)|((with_reducible refine gc 76 rfl ?_);refine gm_ (some 8) rfl rfl Tryd.func76 (frac_wide_zero.calls _ _ _ _ A3.out) ag ?_;intro w8 hb;replace BK0:=bb BK0 hb;replace BK1:=bb BK1 hb;replace BK2:=bb BK2 hb;replace HB:=bs HB hb;(try clear hb);have hnb3:=nn NB4;have hcz4:=X.k2 BK1)|((with_reducible refine gc 76 rfl ?_);refine gm_ (some 12) rfl rfl Tryd.func76 (frac_wide_zero.calls _ _ _ _ A0.out) ag ?_;intro w9 hb;replace BK0:=bb BK0 hb;replace BK2:=bb BK2 hb;replace HB:=bs HB hb;(try clear hb);have hcz5:=X.k2 BK0;have hcz6:=X.k2 BK2))
 refine bodyPost_ret (results_cell_row rfl _ _ gb2 105 #[.int .u64 a0,.int .u64 a1] (0,0) _ rfl (br_ BK2) Tryd.underlying105 rfl (by kernel_rfl)) rfl ?_
 exact ⟨ae,bf HB⟩};{
 replace c0:=Bool.eq_false_iff.mpr c0
 subst c0
 have H1:((frac_wide_twos.f a0 a1).bind fun t2=>((frac_wide_twos.f a2 a3).bind fun t3=>((frac_wide_twos.f a0 a1).bind fun t4=>((frac_wide_down.f a0 a1 t4).bind fun bt0=>(frac_gcd.l0 k (mn t2 t3) bt0.1 bt0.2 a2 a3)))))=some (r1,r2):=by rw [if_neg (show ¬ (false=true) by decide)] at H;exact H
 clear H
 have H:=H1
 clear H1
 replace H:=bi_ H;obtain ⟨t2,A1,H⟩:=H
 (try dsimp only at H)
 replace H:=bi_ H;obtain ⟨t3,A2,H⟩:=H
 (try dsimp only at H)
 obtain ⟨ji0,hji0⟩:∃ j_:Int,(mn t2 t3)=j_:=⟨_,rfl⟩
 replace H:((frac_wide_twos.f a0 a1).bind fun t4=>((frac_wide_down.f a0 a1 t4).bind fun bt0=>(frac_gcd.l0 k ji0 bt0.1 bt0.2 a2 a3)))=some (r1,r2):=by first|(rw [hji0] at H;exact H)|(simp only [hji0] at H ⊢;exact H)
 (try rw [hji0] at A3)
 (try rw [hji0] at A0)
 (try rw [hji0] at A1)
 (try rw [hji0] at A2)
 have hji1:(if t3<t2 then t3 else t2)=ji0:=hji0
 replace H:=bi_ H;obtain ⟨t4,A4,H⟩:=H
 (try dsimp only at H)
 replace H:=bi_ H;obtain ⟨⟨t5,t6⟩,A5,H⟩:=H
 (try dsimp only at H)
 have H':=am H
 clear H
 go_enter Tryd.func68,Tryd.ntmps68
 try go_wp2_with (first|((with_reducible refine gd 2 rfl ?_);refine bx_ 2 105 #[.int .u64 a0,.int .u64 a1] rfl rfl ?_;intro gb0 hg w34 BK0 hb;have GE0:=bz HB hg;replace HB:=bs HB hb;clear hb hg)|((with_reducible refine gd 3 rfl ?_);refine bx_ 3 105 #[.int .u64 a2,.int .u64 a3] rfl rfl ?_;intro gb1 hg w35 BK1 hb;have GE1:=bz HB hg;have ⟨NB0,NB1⟩:=nb BK0 hg;replace BK0:=bb BK0 hb;replace HB:=bs HB hb;clear hb hg)|((with_reducible refine gd 4 rfl ?_);refine bx_ 4 105 #[.int .u64 0,.int .u64 0] rfl rfl ?_;intro gb2 hg w36 BK2 hb;have GE2:=bz HB hg;have ⟨NB2,NB3⟩:=nb BK0 hg;have ⟨NB4,NB5⟩:=nb BK1 hg;replace BK0:=bb BK0 hb;replace BK1:=bb BK1 hb;replace HB:=bs HB hb;clear hb hg;have hnb4:=nn NB0;have hnb5:=nn NB2;have hcz7:=X.k2 BK0)|((with_reducible refine gc 76 rfl ?_);refine gm_ (some 8) rfl rfl Tryd.func76 (frac_wide_zero.calls _ _ _ _ A3.out) ag ?_;intro w40 hb;replace BK0:=bb BK0 hb;replace BK1:=bb BK1 hb;replace BK2:=bb BK2 hb;replace HB:=bs HB hb;(try clear hb);have hnb6:=nn NB4;have hcz8:=X.k2 BK1)|((with_reducible refine gc 76 rfl ?_);refine gm_ (some 12) rfl rfl Tryd.func76 (frac_wide_zero.calls _ _ _ _ A0.out) ag ?_;intro w43 hb;replace BK0:=bb BK0 hb;replace BK1:=bb BK1 hb;replace BK2:=bb BK2 hb;replace HB:=bs HB hb;(try clear hb)))
 replace BK0:=am (blk_drew BK0.out)
 replace BK1:=am (blk_drew BK1.out)
 replace BK2:=am (blk_drew BK2.out)
 replace HB:=am (below_drew1 HB.out)
 refine start_ (n:=6) (S:=fun w'=>c_ w' gb0 0 (.int .u64 a0)∧c_ w' gb0 1 (.int .u64 a1)∧c_ w' gb1 0 (.int .u64 a2)∧c_ w' gb1 1 (.int .u64 a3)) (ds:=[]) (m_ 6 0) (by kernel_rfl) rfl rfl ⟨ct BK0 0,ct BK0 1,ct BK1 0,ct BK1 1⟩ (fun hHeld=>?_)
 generalize w43.drew=w44 at BK0 BK1 BK2 HB hHeld ⊢
 refine tk_ 0 (some 14) (m_ 6 1) rfl rfl (by kernel_rfl) hHeld ?_
 refine tk_ 2 (some 16) (m_ 6 5) rfl rfl (by kernel_rfl) hHeld ?_
 refine o1_ 1 (some 15) (m_ 6 7) rfl rfl (by kernel_rfl) (fun K hK=>?_)
 refine gs_ rfl Tryd.func77 (frac_wide_twos.calls _ _ _ _ A1.out (tt GT)) ag ?_
 intro w45 hb
 replace BK0:=bb BK0 hb
 replace BK1:=bb BK1 hb
 replace BK2:=bb BK2 hb
 replace HB:=bs HB hb
 (try clear hb)
 refine hK.out _ _ ⟨ct BK0 0,ct BK0 1,ct BK1 0,ct BK1 1⟩ (fun hHeld=>?_)
 clear hK K
 refine nr_ (some 15) ?_
 refine o1_ 3 (some 17) (m_ 6 15) rfl rfl (by kernel_rfl) (fun K hK=>?_)
 refine gs_ rfl Tryd.func77 (frac_wide_twos.calls _ _ _ _ A2.out (tt GT)) ag ?_
 intro w46 hb
 replace BK0:=bb BK0 hb
 replace BK1:=bb BK1 hb
 replace BK2:=bb BK2 hb
 replace HB:=bs HB hb
 (try clear hb)
 refine hK.out _ _ ⟨ct BK0 0,ct BK0 1,ct BK1 0,ct BK1 1⟩ (fun hHeld=>?_)
 clear hK K
 refine nr_ (some 17) ?_
 refine pu_ 4 (some 18) (m_ 6 31) rfl rfl (by kernel_rfl) ?_
 refine pu_ 5 (some 5) (m_ 6 63) rfl rfl (by kernel_rfl) ?_
 refine done_ (by kernel_rfl) ?_
 try go_wp2
 replace BK0:=am (blk_drew BK0.out)
 replace BK1:=am (blk_drew BK1.out)
 replace BK2:=am (blk_drew BK2.out)
 replace HB:=am (below_drew1 HB.out)
 refine start_ (n:=5) (S:=fun w'=>c_ w' gb0 0 (.int .u64 a0)∧c_ w' gb0 1 (.int .u64 a1)) (ds:=[4]) (m_ 5 0) (by kernel_rfl) rfl rfl ⟨ct BK0 0,ct BK0 1⟩ (fun hHeld=>?_)
 generalize w46.drew=w47 at BK0 BK1 BK2 HB hHeld ⊢
 refine tk_ 0 (some 19) (m_ 5 1) rfl rfl (by kernel_rfl) hHeld ?_
 refine tk_ 1 (some 20) (m_ 5 3) rfl rfl (by kernel_rfl) hHeld ?_
 refine o1_ 2 (some 21) (m_ 5 7) rfl rfl (by kernel_rfl) (fun K hK=>?_)
 refine gs_ rfl Tryd.func77 (frac_wide_twos.calls _ _ _ _ A4.out (tt GT)) ag ?_
 intro w48 hb
 replace BK0:=bb BK0 hb
 replace BK1:=bb BK1 hb
 replace BK2:=bb BK2 hb
 replace HB:=bs HB hb
 (try clear hb)
 refine hK.out _ _ ⟨ct BK0 0,ct BK0 1⟩ (fun hHeld=>?_)
 clear hK K
 refine nr_ (some 21) ?_
 refine o1_ 3 (some 22) (m_ 5 15) rfl rfl (by kernel_rfl) (fun K hK=>?_)
 refine gs_ rfl Tryd.func78 (frac_wide_down.calls _ _ _ _ _ _ A5.out) ag ?_
 intro w49 hb
 replace BK0:=bb BK0 hb
 replace BK1:=bb BK1 hb
 replace BK2:=bb BK2 hb
 replace HB:=bs HB hb
 (try clear hb)
 refine hK.out _ _ ⟨ct BK0 0,ct BK0 1⟩ (fun hHeld=>?_)
 clear hK K
 refine nr_ (some 22) ?_
 refine last_ (i:=4) (N:=none) (m_ 5 31) rfl rfl (by kernel_rfl) (by decide) (fun K hK=>?_)
 have hs0:c_ w49 gb0 0 (.int .u64 a0):=ct BK0 0
 have hfs0:=blk_frozen BK0.out 0
 have hns0:=NB1.out
 have hns1:=NB3.out
 have hms0:=NB0.out
 have hms1:=NB2.out
 have hs1:c_ w49 gb0 1 (.int .u64 a1):=ct BK0 1
 have hfs1:=blk_frozen BK0.out 1
 have hns2:=NB1.out
 have hns3:=NB3.out
 have hms2:=NB0.out
 have hms3:=NB2.out
 refine skip_ (w1:=?_) (by rfl) rfl ?_ ?_
 rotate_left;{
 go_simp
 rfl}
 refine hK.out _ _ ?_
 clear hK K
 refine done_ (by kernel_rfl) ?_
 try go_wp2
 go_loopg [] k (fun kq w'=>∃ (x0:Int) (x1:Int) (x2:Int) (x3:Int),Aside0 (frac_gcd.l0 kq ji0 x0 x1 x2 x3=some (r1,r2))∧Aside0 (kq≤k)∧Aside0 (w'.heap[gb0]?=some (.cells #[.int .u64 x0,.int .u64 x1] 105 (0,0)))∧Aside0 (w'.heap[gb1]?=some (.cells #[.int .u64 x2,.int .u64 x3] 105 (0,0)))∧Aside0 (w'.heap[gb2]?=some (.cells #[.int .u64 0,.int .u64 0] 105 (0,0)))∧Aside0 (Below w.heap.size w w'))
 case atStart=>exact ⟨(t5),(t6),(a2),(a3),H',⟨Nat.le_refl _⟩,bq_ BK0,bu_ BK1,bu_ BK2,⟨bf HB⟩⟩
 case round =>skip;{
 clear H'
 (try clear c1);(try clear c2);(try clear p2);(try clear c3);(try clear c4);(try clear c6);(try clear c7);(try clear c8);(try clear c9);(try clear c5);(try clear c0);(try clear c20);(try clear c21);(try clear c24);(try clear c37);(try clear c38);(try clear c41);(try clear hcz0);(try clear hcz1);(try clear hcz2);(try clear hcz3);(try clear hcz4);(try clear hcz5);(try clear hcz6);(try clear hcz7);(try clear hcz8)
 obtain ⟨x0,x1,x2,x3,HA,HK1,BK0,BK1,BK2,HB⟩:=hrel
 cases gk with
 | zero=>exact absurd HA.out (by simp [frac_gcd.l0])
 | succ k1 =>skip;{
 have H:=HA.out
 clear HA
 simp only [frac_gcd.l0] at H
 replace H:=bi_ H;obtain ⟨t7,A6,H⟩:=H
 (try dsimp only at H)
 by_cases c53:t7=true;{
 subst c53
 have H1:((frac_wide_up.f x0 x1 ji0).bind fun bt1=>(some (bt1.1,bt1.2)))=some (r1,r2):=by rw [if_pos rfl] at H;exact H
 clear H
 have H:=H1
 clear H1
 replace H:=bi_ H;obtain ⟨⟨t8,t9⟩,A7,H⟩:=H
 (try dsimp only at H)
 simp only [Option.some.injEq,Prod.mk.injEq] at H
 obtain ⟨rfl,rfl⟩:=H
 have hnb7:=nn NB1
 have hnb56:=nn NB4
 have hcz9:=X.k2 BK1
 go_wp2_with (first|((with_reducible refine gc 76 rfl ?_);refine gm_ (some 24) rfl rfl Tryd.func76 (frac_wide_zero.calls _ _ _ _ A6.out) ag ?_;intro w58 hb;replace BK0:=bb BK0 hb;replace BK1:=bb BK1 hb;replace BK2:=bb BK2 hb;replace HB:=bs HB hb;(try clear hb);have hnb59:=nn NB2;have hcz60:=X.k2 BK0)|((with_reducible refine gate_callee (f:=79) rfl ?_);refine goesL_ (some 41) rfl rfl Tryd.func79 (by kernel_rfl) rfl #[.agg #[.int .u64 x0,.int .u64 x1],.int .i64 ji0] rfl (by (try simp only [List.map_toArray,List.map_cons,List.map_nil]);first|done|(simp only [hji0];rfl)|rfl|(simp only [List.length_drop,List.length_take];rfl)) ?_;(with_reducible refine (frac_wide_up.calls _ _ ji0 _ _ _ A7.out).mono ?_);rintro e w61 ⟨rfl,hb⟩;refine ⟨_,rfl,?_⟩;replace BK0:=bb BK0 hb;replace BK1:=bb BK1 hb;replace BK2:=bb BK2 hb;replace HB:=bs HB hb;(try clear hb);have hcz62:=X.k2 BK2))
 refine bodyPost_ret (results_cell_row rfl _ _ gb2 105 #[.int .u64 t8,.int .u64 t9] (0,0) _ rfl (br_ BK2) Tryd.underlying105 rfl (by kernel_rfl)) rfl ?_
 exact ⟨by first|rfl|(simp [errW_none,errW_some]<;>rfl)|(simp only [← hji0];first|rfl|(simp [errW_none,errW_some]<;>rfl))|(simp [*,errW_none,errW_some]<;>rfl),bf HB⟩};{
 replace c53:=Bool.eq_false_iff.mpr c53
 subst c53
 have H1:((frac_wide_twos.f x2 x3).bind fun t10=>((frac_wide_down.f x2 x3 t10).bind fun bt2=>((frac_wide_cmp.f x0 x1 bt2.1 bt2.2).bind fun t11=>(if t11>0 then ((frac_wide_minus.f x0 x1 bt2.1 bt2.2).bind fun bt3=>(frac_gcd.l0 k1 ji0 bt2.1 bt2.2 bt3.1 bt3.2)) else ((frac_wide_minus.f bt2.1 bt2.2 x0 x1).bind fun bt4=>(frac_gcd.l0 k1 ji0 x0 x1 bt4.1 bt4.2))))))=some (r1,r2):=by rw [if_neg (show ¬ (false=true) by decide)] at H;exact H
 clear H
 have H:=H1
 clear H1
 replace H:=bi_ H;obtain ⟨t10,A8,H⟩:=H
 (try dsimp only at H)
 replace H:=bi_ H;obtain ⟨⟨t12,t13⟩,A9,H⟩:=H
 (try dsimp only at H)
 replace H:=bi_ H;obtain ⟨t11,A65,H⟩:=H
 (try dsimp only at H)
 by_cases c66:t11>0;{
 rw [if_pos c66] at H
 have c22:decide (0<t11)=true:=decide_eq_true c66
 clear c66
 replace H:=bi_ H;obtain ⟨⟨t14,t15⟩,A67,H⟩:=H
 (try dsimp only at H)
 have H':=am H
 clear H
 have hnb68:=nn NB1
 have hnb69:=nn NB4
 have hcz70:=X.k2 BK1
 try go_wp2_with (first|((with_reducible refine gc 76 rfl ?_);refine gm_ (some 24) rfl rfl Tryd.func76 (frac_wide_zero.calls _ _ _ _ A6.out) ag ?_;intro w71 hb;replace BK0:=bb BK0 hb;replace BK1:=bb BK1 hb;replace BK2:=bb BK2 hb;replace HB:=bs HB hb;(try clear hb)))
 replace BK0:=am (blk_drew BK0.out)
 replace BK1:=am (blk_drew BK1.out)
 replace BK2:=am (blk_drew BK2.out)
 replace HB:=am (below_drew1 HB.out)
 refine start_ (n:=5) (S:=fun w'=>c_ w' gb1 0 (.int .u64 x2)∧c_ w' gb1 1 (.int .u64 x3)) (ds:=[4]) (m_ 5 0) (by kernel_rfl) rfl rfl ⟨ct BK1 0,ct BK1 1⟩ (fun hHeld=>?_)
 generalize w71.drew=w72 at BK0 BK1 BK2 HB hHeld ⊢
 refine tk_ 0 (some 26) (m_ 5 1) rfl rfl (by kernel_rfl) hHeld ?_
 refine tk_ 1 (some 27) (m_ 5 3) rfl rfl (by kernel_rfl) hHeld ?_
 refine o1_ 2 (some 28) (m_ 5 7) rfl rfl (by kernel_rfl) (fun K hK=>?_)
 refine gs_ rfl Tryd.func77 (frac_wide_twos.calls _ _ _ _ A8.out (tt GT)) ag ?_
 intro w73 hb
 replace BK0:=bb BK0 hb
 replace BK1:=bb BK1 hb
 replace BK2:=bb BK2 hb
 replace HB:=bs HB hb
 (try clear hb)
 refine hK.out _ _ ⟨ct BK1 0,ct BK1 1⟩ (fun hHeld=>?_)
 clear hK K
 refine nr_ (some 28) ?_
 refine o1_ 3 (some 29) (m_ 5 15) rfl rfl (by kernel_rfl) (fun K hK=>?_)
 refine gs_ rfl Tryd.func78 (frac_wide_down.calls _ _ _ _ _ _ A9.out) ag ?_
 intro w74 hb
 replace BK0:=bb BK0 hb
 replace BK1:=bb BK1 hb
 replace BK2:=bb BK2 hb
 replace HB:=bs HB hb
 (try clear hb)
 refine hK.out _ _ ⟨ct BK1 0,ct BK1 1⟩ (fun hHeld=>?_)
 clear hK K
 refine nr_ (some 29) ?_
 refine last_ (i:=4) (N:=none) (m_ 5 31) rfl rfl (by kernel_rfl) (by decide) (fun K hK=>?_)
 have hs2:c_ w74 gb1 0 (.int .u64 x2):=ct BK1 0
 have hfs2:=blk_frozen BK1.out 0
 have hns4:=NB0.out
 have hns5:=NB5.out
 have hms4:=NB1.out
 have hms5:=NB4.out
 have hs3:c_ w74 gb1 1 (.int .u64 x3):=ct BK1 1
 have hfs3:=blk_frozen BK1.out 1
 have hns6:=NB0.out
 have hns7:=NB5.out
 have hms6:=NB1.out
 have hms7:=NB4.out
 refine skip_ (w1:=?_) (by rfl) rfl ?_ ?_
 rotate_left;{
 go_simp
 rfl}
 refine hK.out _ _ ?_
 clear hK K
 refine done_ (by kernel_rfl) ?_
 have hnb77:=nn NB2
 have hcz78:=X.k2 BK0
 have hcz79:=X.k2 BK1
 try go_wp2_with (first|((with_reducible refine gc 72 rfl ?_);refine gm_ (some 32) rfl rfl Tryd.func72 (frac_wide_cmp.calls _ _ _ _ _ _ A65.out) ag ?_;intro w80 hb;replace BK0:=bb BK0 hb;replace BK1:=bp_ #[.int .u64 t12,.int .u64 t13] BK1 hb;replace BK2:=bb BK2 hb;replace HB:=bs HB hb;(try clear hb);have hcz81:=X.k2 BK1;have hcz82:=X.k2 BK0)|((with_reducible refine gc 73 rfl ?_);refine gm_ (some 38) rfl rfl Tryd.func73 (frac_wide_minus.calls _ _ _ _ _ _ _ A67.out) ag ?_;intro w83 hb;replace BK0:=bp_ #[.int .u64 t12,.int .u64 t13] BK0 hb;replace BK1:=bp_ #[.int .u64 x0,.int .u64 x1] BK1 hb;replace BK2:=bb BK2 hb;replace HB:=bs HB hb;(try clear hb);have hcz84:=X.k2 BK1))
 go_roundg k1
 case measure=>have:=HK1.out;omega
 case rel=>exact ⟨(t12),(t13),(t14),(t15),H',⟨by have:=HK1.out;omega⟩,bu_ BK0,bq_ BK1,bu_ BK2,⟨bf HB⟩⟩};{
 rw [if_neg c66] at H
 have c22:decide (0<t11)=false:=decide_eq_false c66
 clear c66
 replace H:=bi_ H;obtain ⟨⟨t16,t17⟩,A85,H⟩:=H
 (try dsimp only at H)
 have H':=am H
 clear H
 have hnb86:=nn NB1
 have hnb87:=nn NB4
 have hcz88:=X.k2 BK1
 try go_wp2_with (first|((with_reducible refine gc 76 rfl ?_);refine gm_ (some 24) rfl rfl Tryd.func76 (frac_wide_zero.calls _ _ _ _ A6.out) ag ?_;intro w89 hb;replace BK0:=bb BK0 hb;replace BK1:=bb BK1 hb;replace BK2:=bb BK2 hb;replace HB:=bs HB hb;(try clear hb)))
 replace BK0:=am (blk_drew BK0.out)
 replace BK1:=am (blk_drew BK1.out)
 replace BK2:=am (blk_drew BK2.out)
 replace HB:=am (below_drew1 HB.out)
 refine start_ (n:=5) (S:=fun w'=>c_ w' gb1 0 (.int .u64 x2)∧c_ w' gb1 1 (.int .u64 x3)) (ds:=[4]) (m_ 5 0) (by kernel_rfl) rfl rfl ⟨ct BK1 0,ct BK1 1⟩ (fun hHeld=>?_)
 generalize w89.drew=w90 at BK0 BK1 BK2 HB hHeld ⊢
 refine tk_ 0 (some 26) (m_ 5 1) rfl rfl (by kernel_rfl) hHeld ?_
 refine tk_ 1 (some 27) (m_ 5 3) rfl rfl (by kernel_rfl) hHeld ?_
 refine o1_ 2 (some 28) (m_ 5 7) rfl rfl (by kernel_rfl) (fun K hK=>?_)
 refine gs_ rfl Tryd.func77 (frac_wide_twos.calls _ _ _ _ A8.out (tt GT)) ag ?_
 intro w91 hb
 replace BK0:=bb BK0 hb
 replace BK1:=bb BK1 hb
 replace BK2:=bb BK2 hb
 replace HB:=bs HB hb
 (try clear hb)
 refine hK.out _ _ ⟨ct BK1 0,ct BK1 1⟩ (fun hHeld=>?_)
 clear hK K
 refine nr_ (some 28) ?_
 refine o1_ 3 (some 29) (m_ 5 15) rfl rfl (by kernel_rfl) (fun K hK=>?_)
 refine gs_ rfl Tryd.func78 (frac_wide_down.calls _ _ _ _ _ _ A9.out) ag ?_
 intro w92 hb
 replace BK0:=bb BK0 hb
 replace BK1:=bb BK1 hb
 replace BK2:=bb BK2 hb
 replace HB:=bs HB hb
 (try clear hb)
 refine hK.out _ _ ⟨ct BK1 0,ct BK1 1⟩ (fun hHeld=>?_)
 clear hK K
 refine nr_ (some 29) ?_
 refine last_ (i:=4) (N:=none) (m_ 5 31) rfl rfl (by kernel_rfl) (by decide) (fun K hK=>?_)
 have hs4:c_ w92 gb1 0 (.int .u64 x2):=ct BK1 0
 have hfs4:=blk_frozen BK1.out 0
 have hns8:=NB0.out
 have hns9:=NB5.out
 have hms8:=NB1.out
 have hms9:=NB4.out
 have hs5:c_ w92 gb1 1 (.int .u64 x3):=ct BK1 1
 have hfs5:=blk_frozen BK1.out 1
 have hns10:=NB0.out
 have hns11:=NB5.out
 have hms10:=NB1.out
 have hms11:=NB4.out
 refine skip_ (w1:=?_) (by rfl) rfl ?_ ?_
 rotate_left;{
 go_simp
 rfl}
 refine hK.out _ _ ?_
 clear hK K
 refine done_ (by kernel_rfl) ?_
 have hnb95:=nn NB2
 have hcz96:=X.k2 BK0
 have hcz97:=X.k2 BK1
 try go_wp2_with (first|((with_reducible refine gc 72 rfl ?_);refine gm_ (some 32) rfl rfl Tryd.func72 (frac_wide_cmp.calls _ _ _ _ _ _ A65.out) ag ?_;intro w98 hb;replace BK0:=bb BK0 hb;replace BK1:=bp_ #[.int .u64 t12,.int .u64 t13] BK1 hb;replace BK2:=bb BK2 hb;replace HB:=bs HB hb;(try clear hb);have hcz99:=X.k2 BK1;have hcz29:=X.k2 BK0)|((with_reducible refine gc 73 rfl ?_);refine gm_ (some 38) rfl rfl Tryd.func73 (frac_wide_minus.calls _ _ _ _ _ _ _ A85.out) ag ?_;intro w51 hb;replace BK0:=bb BK0 hb;replace BK1:=bb BK1 hb;replace BK2:=bb BK2 hb;replace HB:=bs HB hb;(try clear hb);have hcz30:=X.k2 BK1))
 go_roundg k1
 case measure=>have:=HK1.out;omega
 case rel=>exact ⟨(x0),(x1),(t16),(t17),H',⟨by have:=HK1.out;omega⟩,bu_ BK0,bq_ BK1,bu_ BK2,⟨bf HB⟩⟩}}}}}}
set_option maxRecDepth 100000 in
theorem len8tab_size:(Lib.len8tab.size:Int)=256:=by
 have:Lib.len8tab.size=256:=by decide
 omega
theorem wrap_add (k a b:Nat) (hk:k≤56) (ha:a≤8) (hb:b=k+a):wrap64 ((k:Int)+wrap64 (a:Int))=(b:Int):=by
 unfold wrap64
 omega
theorem wrap_wrap (a:Nat) (ha:a≤8):wrap64 (wrap64 (a:Int))=(a:Int):=by
 unfold wrap64
 omega
theorem wrap_one (a:Nat) (ha:a≤8):wrap64 (a:Int)=(a:Int):=by
 unfold wrap64
 omega
theorem len8_get (y:Int) (h:y.toNat<Lib.len8tab.size):((Lib.len8tab[y.toNat]'h).toNat:Int)=Lib.len8 y:=by
 unfold Lib.len8
 rw [getElem?_pos Lib.len8tab y.toNat h]
 rfl
set_option maxHeartbeats 8000000 in
set_option maxRecDepth 1000000 in
theorem len64_walk (x:Int) (w:World) (h0:0≤x) (h1:x≤18446744073709551615) :
    Calls Tryd.prog 84 #[.int .u64 x] w fun e w'=>e=.returned (.int .i64 (Lib.bitLen x.toNat))∧w'=w:=by
  go_enter Tryd.func84,Tryd.ntmps84
  go_wp2
  all_goals first
    | (go_ret;refine ⟨congrArg Ending.returned (congrArg (Value.int IntKind.i64) ?_),rfl⟩)
    | (exfalso
       have hs:=len8tab_size
       omega)
  all_goals first
    | (rw [len8_get (x / 4294967296 / 65536 / 256) _,Lib.len8_of (x / 4294967296 / 65536 / 256) (by omega) (by omega)]
       have e:(x / 4294967296 / 65536 / 256).toNat=x.toNat / 72057594037927936:=by omega
       have l:=Lib.bitLen_le8' (x / 4294967296 / 65536 / 256) (by omega) (by omega)
       have s:=Lib.bitLen_shift56 x.toNat (by omega) (by omega)
       rw [e] at l ⊢
       exact wrap_add 56 _ _ (by decide) l s)
    | (rw [len8_get (x / 4294967296 / 65536) _,Lib.len8_of (x / 4294967296 / 65536) (by omega) (by omega)]
       have e:(x / 4294967296 / 65536).toNat=x.toNat / 281474976710656:=by omega
       have l:=Lib.bitLen_le8' (x / 4294967296 / 65536) (by omega) (by omega)
       have s:=Lib.bitLen_shift48 x.toNat (by omega) (by omega)
       rw [e] at l ⊢
       exact wrap_add 48 _ _ (by decide) l s)
    | (rw [len8_get (x / 4294967296 / 256) _,Lib.len8_of (x / 4294967296 / 256) (by omega) (by omega)]
       have e:(x / 4294967296 / 256).toNat=x.toNat / 1099511627776:=by omega
       have l:=Lib.bitLen_le8' (x / 4294967296 / 256) (by omega) (by omega)
       have s:=Lib.bitLen_shift40 x.toNat (by omega) (by omega)
       rw [e] at l ⊢
       exact wrap_add 40 _ _ (by decide) l s)
    | (rw [len8_get (x / 4294967296) _,Lib.len8_of (x / 4294967296) (by omega) (by omega)]
       have e:(x / 4294967296).toNat=x.toNat / 4294967296:=by omega
       have l:=Lib.bitLen_le8' (x / 4294967296) (by omega) (by omega)
       have s:=Lib.bitLen_shift32 x.toNat (by omega) (by omega)
       rw [e] at l ⊢
       exact wrap_add 32 _ _ (by decide) l s)
    | (rw [len8_get (x / 65536 / 256) _,Lib.len8_of (x / 65536 / 256) (by omega) (by omega)]
       have e:(x / 65536 / 256).toNat=x.toNat / 16777216:=by omega
       have l:=Lib.bitLen_le8' (x / 65536 / 256) (by omega) (by omega)
       have s:=Lib.bitLen_shift24 x.toNat (by omega) (by omega)
       rw [e] at l ⊢
       exact wrap_add 24 _ _ (by decide) l s)
    | (rw [len8_get (x / 65536) _,Lib.len8_of (x / 65536) (by omega) (by omega)]
       have e:(x / 65536).toNat=x.toNat / 65536:=by omega
       have l:=Lib.bitLen_le8' (x / 65536) (by omega) (by omega)
       have s:=Lib.bitLen_shift16 x.toNat (by omega) (by omega)
       rw [e] at l ⊢
       exact wrap_add 16 _ _ (by decide) l s)
    | (rw [len8_get (x / 256) _,Lib.len8_of (x / 256) (by omega) (by omega)]
       have e:(x / 256).toNat=x.toNat / 256:=by omega
       have l:=Lib.bitLen_le8' (x / 256) (by omega) (by omega)
       have s:=Lib.bitLen_shift8 x.toNat (by omega) (by omega)
       rw [e] at l ⊢
       exact wrap_add 8 _ _ (by decide) l s)
    | (rw [len8_get (x) _,Lib.len8_of (x) (by omega) (by omega)]
       have e:(x).toNat=x.toNat:=by omega
       have l:=Lib.bitLen_le8' (x) (by omega) (by omega)
       rw [e] at l ⊢
       first|exact wrap_wrap _ l|exact wrap_add 0 _ _ (by decide) l (by omega)|exact wrap_one _ l)
theorem bits_Len64.calls (a0 r:Int) (w:World) (h:bits_Len64.f a0=some r) :
  Calls Tryd.prog 84 #[.int .u64 a0] w fun e w'=>e=.returned (.int .i64 r)∧Drawn0 w w':=by
 unfold bits_Len64.f at h
 by_cases c:0≤a0∧a0≤18446744073709551615;{
 rw [if_pos c] at h
 obtain rfl:=Option.some.inj h
 exact (len64_walk a0 w c.1 c.2).mono fun e w' ⟨he,hw⟩=>⟨he,by rw [hw];exact Drawn0.refl _⟩};{
 rw [if_neg c] at h
 cases h}
theorem frac_wide_long.calls (a0:Int) (a1:Int) (r:Int) (w:World) (h:frac_wide_long.f a0 a1=some r) :
  Calls Tryd.prog 80 #[.agg #[.int .u64 a0,.int .u64 a1]] w fun e w'=>e=.returned (.int .i64 r)∧Below w.heap.size w w':=by
 have hu0:=Tryd.underlying105
 have HB:=am (Below.refl w.heap.size w)
 have H:(if a0=0 then ((bits_Len64.f a1).bind fun t0=>(some t0)) else ((bits_Len64.f a0).bind fun t1=>(some (wrap64 (64+t1)))))=some r:=h
 clear h
 by_cases c2:a0=0;{
 rw [if_pos c2] at H
 have c0:(a0==0)=true:=beq_iff_eq.mpr c2
 have c1:(a0 != 0)=false:=bne_eq_false_iff_eq.mpr c2
 clear c2
 replace H:=bi_ H;obtain ⟨t0,A3,H⟩:=H
 (try dsimp only at H)
 obtain rfl:=Option.some.inj H
 go_enter Tryd.func80,Tryd.ntmps80
 go_wp2_with (first|((with_reducible refine gd 1 rfl ?_);refine bx_ 1 105 #[.int .u64 a0,.int .u64 a1] rfl rfl ?_;intro gb0 hg w4 BK0 hb;have GE0:=bz HB hg;replace HB:=bs HB hb;clear hb hg;have hcz5:=X.k2 BK0)|((with_reducible refine gc 84 rfl ?_);refine gm_ (some 12) rfl rfl Tryd.func84 (bits_Len64.calls _ _ _ A3.out) ag ?_;rintro w' ⟨nd,rfl⟩))
 go_ret
 exact ⟨ae,bf HB⟩};{
 rw [if_neg c2] at H
 have c0:(a0==0)=false:=beq_eq_false_iff_ne.mpr c2
 have c1:(a0 != 0)=true:=bne_iff_ne.mpr c2
 replace H:=bi_ H;obtain ⟨t1,A6,H⟩:=H
 (try dsimp only at H)
 obtain rfl:=Option.some.inj H
 go_enter Tryd.func80,Tryd.ntmps80
 go_wp2_with (first|((with_reducible refine gd 1 rfl ?_);refine bx_ 1 105 #[.int .u64 a0,.int .u64 a1] rfl rfl ?_;intro gb0 hg w7 BK0 hb;have GE0:=bz HB hg;replace HB:=bs HB hb;clear hb hg;have hcz8:=X.k2 BK0)|((with_reducible refine gc 84 rfl ?_);refine gm_ (some 8) rfl rfl Tryd.func84 (bits_Len64.calls _ _ _ A6.out) ag ?_;rintro w' ⟨nd,rfl⟩))
 go_ret
 exact ⟨ae,bf HB⟩}
end Go.Proofs.YtenphnkiacfmiaaDoor.X
