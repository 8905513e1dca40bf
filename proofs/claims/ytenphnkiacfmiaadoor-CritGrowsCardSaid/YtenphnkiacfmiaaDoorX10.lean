/- Walks: each '.calls' says that the Go function comes to what its Lean function tells. Conditions: as each theorem's head says. -/
import Derived.Test.YtenphnkiacfmiaaDoorXD
import Derived.Test.YtenphnkiacfmiaaDoorX0
import Derived.Test.YtenphnkiacfmiaaDoorX8
import Derived.Test.YtenphnkiacfmiaaDoorX9
namespace Go.Proofs.YtenphnkiacfmiaaDoor.X
open Go.RowKit Go.Proofs.YtenphnkiacfmiaaDoorW.PrintWords Go.Proofs.YtenphnkiacfmiaaDoorW.PrintLast Go.Proofs.YtenphnkiacfmiaaDoorW.PrintMore
attribute [local go_sem] max2_int min2_int max_two min_two max_three min_three max_four min_four
set_option linter.unusedVariables false
set_option maxHeartbeats 8000000
set_option maxRecDepth 100000
set_option linter.unusedSimpArgs false
theorem frac_wide_over.calls (k:Nat) (a0:Int) (a1:Int) (a2:Int) (a3:Int) (r1:Int) (r2:Int) (w:World) (h:frac_wide_over.f k a0 a1 a2 a3=some (r1,r2)) :
  Calls Tryd.prog 69 #[.agg #[.int .u64 a0,.int .u64 a1],.agg #[.int .u64 a2,.int .u64 a3]] w fun e w'=>e=.returned (.agg #[.int .u64 r1,.int .u64 r2])∧Below w.heap.size w w':=by
 have hu0:=Tryd.underlying105
 have HB:=am (Below.refl w.heap.size w)
 have H:((frac_wide_long.f a0 a1).bind fun t0=>((frac_wide_long.f a2 a3).bind fun t1=>(frac_wide_over.l0 k (wrap64 (t0-t1)) a0 a1 a2 a3 0 0)))=some (r1,r2):=h
 clear h
 replace H:=bi_ H;obtain ⟨t0,A3,H⟩:=H
 (try dsimp only at H)
 replace H:=bi_ H;obtain ⟨t1,A4,H⟩:=H
 (try dsimp only at H)
 have H':=am H
 clear H
 go_enter Tryd.func69,Tryd.ntmps69
 try go_wp2_with (first|((with_reducible refine gd 2 rfl ?_);refine bx_ 2 105 #[.int .u64 a0,.int .u64 a1] rfl rfl ?_;intro gb0 hg w5 BK0 hb;have GE0:=bz HB hg;replace HB:=bs HB hb;clear hb hg)|((with_reducible refine gd 3 rfl ?_);refine bx_ 3 105 #[.int .u64 a2,.int .u64 a3] rfl rfl ?_;intro gb1 hg w6 BK1 hb;have GE1:=bz HB hg;have ⟨NB0,NB1⟩:=nb BK0 hg;replace BK0:=bb BK0 hb;replace HB:=bs HB hb;clear hb hg)|((with_reducible refine gd 4 rfl ?_);refine bx_ 4 105 #[.int .u64 0,.int .u64 0] rfl rfl ?_;intro gb2 hg w7 BK2 hb;have GE2:=bz HB hg;have ⟨NB2,NB3⟩:=nb BK0 hg;have ⟨NB4,NB5⟩:=nb BK1 hg;replace BK0:=bb BK0 hb;replace BK1:=bb BK1 hb;replace HB:=bs HB hb;clear hb hg)|((with_reducible refine gd 5 rfl ?_);refine bx_ 5 105 #[.int .u64 0,.int .u64 0] rfl rfl ?_;intro gb3 hg w8 BK3 hb;have GE3:=bz HB hg;have ⟨NB6,NB7⟩:=nb BK0 hg;have ⟨NB8,NB9⟩:=nb BK1 hg;have ⟨NB10,NB11⟩:=nb BK2 hg;replace BK0:=bb BK0 hb;replace BK1:=bb BK1 hb;replace BK2:=bb BK2 hb;replace HB:=bs HB hb;clear hb hg))
 replace BK0:=am (blk_drew BK0.out)
 replace BK1:=am (blk_drew BK1.out)
 replace BK2:=am (blk_drew BK2.out)
 replace BK3:=am (blk_drew BK3.out)
 replace HB:=am (below_drew1 HB.out)
 refine start_ (n:=6) (S:=fun w'=>c_ w' gb0 0 (.int .u64 a0)∧c_ w' gb0 1 (.int .u64 a1)∧c_ w' gb1 0 (.int .u64 a2)∧c_ w' gb1 1 (.int .u64 a3)) (ds:=[]) (m_ 6 0) (by kernel_rfl) rfl rfl ⟨ct BK0 0,ct BK0 1,ct BK1 0,ct BK1 1⟩ (fun hHeld=>?_)
 generalize w8.drew=w9 at BK0 BK1 BK2 BK3 HB hHeld ⊢
 refine tk_ 0 (some 8) (m_ 6 1) rfl rfl (by kernel_rfl) hHeld ?_
 refine tk_ 2 (some 10) (m_ 6 5) rfl rfl (by kernel_rfl) hHeld ?_
 refine o1_ 1 (some 9) (m_ 6 7) rfl rfl (by kernel_rfl) (fun K hK=>?_)
 refine gs_ rfl Tryd.func80 (frac_wide_long.calls _ _ _ _ A3.out) ag ?_
 intro w0 hb
 replace BK0:=bb BK0 hb
 replace BK1:=bb BK1 hb
 replace BK2:=bb BK2 hb
 replace BK3:=bb BK3 hb
 replace HB:=bs HB hb
 (try clear hb)
 refine hK.out _ _ ⟨ct BK0 0,ct BK0 1,ct BK1 0,ct BK1 1⟩ (fun hHeld=>?_)
 clear hK K
 refine nr_ (some 9) ?_
 refine o1_ 3 (some 11) (m_ 6 15) rfl rfl (by kernel_rfl) (fun K hK=>?_)
 refine gs_ rfl Tryd.func80 (frac_wide_long.calls _ _ _ _ A4.out) ag ?_
 intro w1 hb
 replace BK0:=bb BK0 hb
 replace BK1:=bb BK1 hb
 replace BK2:=bb BK2 hb
 replace BK3:=bb BK3 hb
 replace HB:=bs HB hb
 (try clear hb)
 refine hK.out _ _ ⟨ct BK0 0,ct BK0 1,ct BK1 0,ct BK1 1⟩ (fun hHeld=>?_)
 clear hK K
 refine nr_ (some 11) ?_
 refine pu_ 4 (some 12) (m_ 6 31) rfl rfl (by kernel_rfl) ?_
 refine pu_ 5 (some 6) (m_ 6 63) rfl rfl (by kernel_rfl) ?_
 refine done_ (by kernel_rfl) ?_
 try go_wp2
 go_loopg [6] k (fun kq v6 w'=>∃ (x0:Int) (x1:Int) (x2:Int) (x3:Int) (x4:Int),v6=.int .i64 x0∧Aside0 (frac_wide_over.l0 kq x0 x1 x2 a2 a3 x3 x4=some (r1,r2))∧Aside0 (kq≤k)∧Aside0 (w'.heap[gb0]?=some (.cells #[.int .u64 x1,.int .u64 x2] 105 (0,0)))∧Aside0 (w'.heap[gb1]?=some (.cells #[.int .u64 a2,.int .u64 a3] 105 (0,0)))∧Aside0 (w'.heap[gb2]?=some (.cells #[.int .u64 0,.int .u64 0] 105 (0,0)))∧Aside0 (w'.heap[gb3]?=some (.cells #[.int .u64 x3,.int .u64 x4] 105 (0,0)))∧Aside0 (Below w.heap.size w w'))
 case atStart=>exact ⟨(wrap64 (t0-t1)),(a0),(a1),(0),(0),(aq),H',⟨Nat.le_refl _⟩,bu_ BK0,bu_ BK1,bu_ BK2,bu_ BK3,⟨bf HB⟩⟩
 case round =>skip;{
 clear H'
 (try clear p2);(try clear c6);(try clear p6);(try clear c8)
 obtain ⟨x0,x1,x2,x3,x4,rfl,HA,HK1,BK0,BK1,BK2,BK3,HB⟩:=hrel
 cases gk with
 | zero=>exact absurd HA.out (by simp [frac_wide_over.l0])
 | succ k1 =>skip;{
 have H:=HA.out
 clear HA
 simp only [frac_wide_over.l0] at H
 by_cases c0:x0≥0;{
 rw [if_pos c0] at H
 have c1:decide (0≤x0)=true:=decide_eq_true c0
 clear c0
 replace H:=bi_ H;obtain ⟨⟨t2,t3⟩,A0,H⟩:=H
 (try dsimp only at H)
 replace H:=bi_ H;obtain ⟨⟨t4,t5⟩,A1,H⟩:=H
 (try dsimp only at H)
 replace H:=bi_ H;obtain ⟨t6,A2,H⟩:=H
 (try dsimp only at H)
 by_cases c2:t6≤0;{
 rw [if_pos c2] at H
 have c3:decide (t6≤0)=true:=decide_eq_true c2
 clear c2
 replace H:=bi_ H;obtain ⟨⟨t7,t8⟩,A5,H⟩:=H
 (try dsimp only at H)
 have H':=am H
 clear H
 have hnb0:=nn NB7
 have hnb1:=nn NB9
 have hnb2:=nn NB11
 have hcz0:=X.k2 BK3
 go_wp2_with (first|((with_reducible refine gc 79 rfl ?_);refine gm_ (some 18) rfl rfl Tryd.func79 (frac_wide_up.calls _ _ _ _ _ _ A0.out) ag ?_;intro w2 hb;replace BK0:=bb BK0 hb;replace BK1:=bb BK1 hb;replace BK2:=bb BK2 hb;replace BK3:=bb BK3 hb;replace HB:=bs HB hb;(try clear hb);have hcz1:=X.k2 BK3;have hnb3:=nn NB1;have hnb4:=nn NB4;have hcz2:=X.k2 BK1)|((with_reducible refine gc 79 rfl ?_);refine gm_ (some 21) rfl rfl Tryd.func79 (frac_wide_up.calls _ _ _ _ _ _ A1.out) ag ?_;intro w3 hb;replace BK0:=bb BK0 hb;replace BK1:=bb BK1 hb;replace BK2:=bb BK2 hb;replace BK3:=bp_ #[.int .u64 t2,.int .u64 t3] BK3 hb;replace HB:=bs HB hb;(try clear hb))|((with_reducible refine gd 7 rfl ?_);refine bx_ 7 105 #[.int .u64 0,.int .u64 0] rfl rfl ?_;intro gb4 hg w4 BK4 hb;have GE4:=bz HB hg;have ⟨NB12,NB13⟩:=nb BK0 hg;have ⟨NB14,NB15⟩:=nb BK1 hg;have ⟨NB16,NB17⟩:=nb BK2 hg;have ⟨NB18,NB19⟩:=nb BK3 hg;replace BK0:=bb BK0 hb;replace BK1:=bb BK1 hb;replace BK2:=bb BK2 hb;replace BK3:=bb BK3 hb;replace HB:=bs HB hb;clear hb hg;have hnb5:=nn NB13;have hnb6:=nn NB15;have hnb7:=nn NB17;have hnb8:=nn NB19;have hcz3:=X.k2 BK4;have hnb9:=nn NB2;have hcz4:=X.k2 BK0)|((with_reducible refine gc 72 rfl ?_);refine gm_ (some 24) rfl rfl Tryd.func72 (frac_wide_cmp.calls _ _ _ _ _ _ A2.out) ag ?_;intro w36 hb;replace BK0:=bb BK0 hb;replace BK1:=bb BK1 hb;replace BK2:=bb BK2 hb;replace BK3:=bb BK3 hb;replace BK4:=bp_ #[.int .u64 t4,.int .u64 t5] BK4 hb;replace HB:=bs HB hb;(try clear hb);have hcz5:=X.k2 BK0;have hcz6:=X.k2 BK4)|((with_reducible refine gc 73 rfl ?_);refine gm_ (some 28) rfl rfl Tryd.func73 (frac_wide_minus.calls _ _ _ _ _ _ _ A5.out) ag ?_;intro w39 hb;replace BK0:=bb BK0 hb;replace BK1:=bb BK1 hb;replace BK2:=bb BK2 hb;replace BK3:=bb BK3 hb;replace HB:=bs HB hb;(try clear hb);have hcz7:=X.k2 BK0;have hcz8:=X.k2 BK3))
 go_roundg k1
 case measure=>have:=HK1.out;omega
 case rel=>exact ⟨(wrap64 (x0-1)),(t7),(t8),(t2),(Go.bits .or .u64 t3 1),(aq),H',⟨by have:=HK1.out;omega⟩,bq_ BK0,bu_ BK1,bu_ BK2,bq_ BK3,⟨bf HB⟩⟩};{
 rw [if_neg c2] at H
 have c3:decide (t6≤0)=false:=decide_eq_false c2
 clear c2
 have H':=am H
 clear H
 have hnb42:=nn NB7
 have hnb43:=nn NB9
 have hnb44:=nn NB11
 have hcz9:=X.k2 BK3
 go_wp2_with (first|((with_reducible refine gc 79 rfl ?_);refine gm_ (some 18) rfl rfl Tryd.func79 (frac_wide_up.calls _ _ _ _ _ _ A0.out) ag ?_;intro w46 hb;replace BK0:=bb BK0 hb;replace BK1:=bb BK1 hb;replace BK2:=bb BK2 hb;replace BK3:=bb BK3 hb;replace HB:=bs HB hb;(try clear hb);have hcz47:=X.k2 BK3;have hnb48:=nn NB1;have hnb49:=nn NB4;have hcz50:=X.k2 BK1)|((with_reducible refine gc 79 rfl ?_);refine gm_ (some 21) rfl rfl Tryd.func79 (frac_wide_up.calls _ _ _ _ _ _ A1.out) ag ?_;intro w51 hb;replace BK0:=bb BK0 hb;replace BK1:=bb BK1 hb;replace BK2:=bb BK2 hb;replace BK3:=bp_ #[.int .u64 t2,.int .u64 t3] BK3 hb;replace HB:=bs HB hb;(try clear hb))|((with_reducible refine gd 7 rfl ?_);refine bx_ 7 105 #[.int .u64 0,.int .u64 0] rfl rfl ?_;intro gb4 hg w52 BK4 hb;have GE4:=bz HB hg;have ⟨NB12,NB13⟩:=nb BK0 hg;have ⟨NB14,NB15⟩:=nb BK1 hg;have ⟨NB16,NB17⟩:=nb BK2 hg;have ⟨NB18,NB19⟩:=nb BK3 hg;replace BK0:=bb BK0 hb;replace BK1:=bb BK1 hb;replace BK2:=bb BK2 hb;replace BK3:=bb BK3 hb;replace HB:=bs HB hb;clear hb hg;have hnb53:=nn NB13;have hnb54:=nn NB15;have hnb55:=nn NB17;have hnb56:=nn NB19;have hcz57:=X.k2 BK4;have hnb58:=nn NB2;have hcz59:=X.k2 BK0)|((with_reducible refine gc 72 rfl ?_);refine gm_ (some 24) rfl rfl Tryd.func72 (frac_wide_cmp.calls _ _ _ _ _ _ A2.out) ag ?_;intro w60 hb;replace BK0:=bb BK0 hb;replace BK1:=bb BK1 hb;replace BK2:=bb BK2 hb;replace BK3:=bb BK3 hb;replace BK4:=bp_ #[.int .u64 t4,.int .u64 t5] BK4 hb;replace HB:=bs HB hb;(try clear hb)))
 go_roundg k1
 case measure=>have:=HK1.out;omega
 case rel=>exact ⟨(wrap64 (x0-1)),(x1),(x2),(t2),(t3),(aq),H',⟨by have:=HK1.out;omega⟩,bu_ BK0,bu_ BK1,bu_ BK2,bu_ BK3,⟨bf HB⟩⟩}};{
 rw [if_neg c0] at H
 have c1:decide (0≤x0)=false:=decide_eq_false c0
 clear c0
 simp only [Option.some.injEq,Prod.mk.injEq] at H
 obtain ⟨rfl,rfl⟩:=H
 have hnb61:=nn NB7
 have hnb62:=nn NB9
 have hnb63:=nn NB11
 have hcz64:=X.k2 BK3
 have hnb65:=nn NB3
 have hnb66:=nn NB5
 have hcz67:=X.k2 BK2
 go_wp2
 refine bodyPost_ret (results_cell_row rfl _ _ gb2 105 #[.int .u64 x3,.int .u64 x4] (0,0) _ rfl (br_ BK2) Tryd.underlying105 rfl (by kernel_rfl)) rfl ?_
 exact ⟨ae,bf HB⟩}}}
theorem frac_signed_whole.calls (a0:Bool) (a1:Int) (a2:Int) (r1:Int) (r2:Bool) (w:World) (h:frac_signed_whole.f a0 a1 a2=some (r1,r2)) :
  Calls Tryd.prog 70 #[.agg #[.bool a0,.int .u64 a1,.int .u64 a2]] w fun e w'=>e=.returned (.tuple #[.int .i64 r1,.bool r2])∧Below w.heap.size w w':=by
 have hu0:=Tryd.underlying107
 have HB:=am (Below.refl w.heap.size w)
 have H:(if a1=0 then (if a0=true then (some (wrap64 (IntKind.u64.wrap (-a2)),decide (a2≤9223372036854775808))) else (some (wrap64 (a2),decide (a2<9223372036854775808)))) else (some (0,false)))=some (r1,r2):=h
 clear h
 by_cases c2:a1=0;{
 rw [if_pos c2] at H
 have c0:(a1==0)=true:=beq_iff_eq.mpr c2
 have c1:(a1 != 0)=false:=bne_eq_false_iff_eq.mpr c2
 clear c2
 by_cases c3:a0=true;{
 subst c3
 have H1:(some (wrap64 (IntKind.u64.wrap (-a2)),decide (a2≤9223372036854775808)))=some (r1,r2):=by rw [if_pos rfl] at H;exact H
 clear H
 have H:=H1
 clear H1
 simp only [Option.some.injEq,Prod.mk.injEq] at H
 obtain ⟨rfl,rfl⟩:=H
 go_enter Tryd.func70,Tryd.ntmps70
 go_wp2_with (first|((with_reducible refine gd 1 rfl ?_);refine bx_ 1 107 #[.bool true,.int .u64 a1,.int .u64 a2] rfl rfl ?_;intro gb0 hg w4 BK0 hb;have GE0:=bz HB hg;replace HB:=bs HB hb;clear hb hg;have hcz5:=X.k3 BK0))
 repeat (go_quiet (first|((with_reducible refine gd 1 rfl ?_);refine bx_ 1 107 #[.bool true,.int .u64 a1,.int .u64 a2] rfl rfl ?_;intro gb0 hg w4 BK0 hb;have GE0:=bz HB hg;replace HB:=bs HB hb;clear hb hg;have hcz5:=X.k3 BK0));try go_wp2_with (first|((with_reducible refine gd 1 rfl ?_);refine bx_ 1 107 #[.bool true,.int .u64 a1,.int .u64 a2] rfl rfl ?_;intro gb0 hg w4 BK0 hb;have GE0:=bz HB hg;replace HB:=bs HB hb;clear hb hg;have hcz5:=X.k3 BK0)))
 go_ret2
 exact ⟨ae,bf HB⟩};{
 replace c3:=Bool.eq_false_iff.mpr c3
 subst c3
 have H1:(some (wrap64 (a2),decide (a2<9223372036854775808)))=some (r1,r2):=by rw [if_neg (show ¬ (false=true) by decide)] at H;exact H
 clear H
 have H:=H1
 clear H1
 simp only [Option.some.injEq,Prod.mk.injEq] at H
 obtain ⟨rfl,rfl⟩:=H
 go_enter Tryd.func70,Tryd.ntmps70
 go_wp2_with (first|((with_reducible refine gd 1 rfl ?_);refine bx_ 1 107 #[.bool false,.int .u64 a1,.int .u64 a2] rfl rfl ?_;intro gb0 hg w6 BK0 hb;have GE0:=bz HB hg;replace HB:=bs HB hb;clear hb hg;have hcz7:=X.k3 BK0))
 repeat (go_quiet (first|((with_reducible refine gd 1 rfl ?_);refine bx_ 1 107 #[.bool false,.int .u64 a1,.int .u64 a2] rfl rfl ?_;intro gb0 hg w6 BK0 hb;have GE0:=bz HB hg;replace HB:=bs HB hb;clear hb hg;have hcz7:=X.k3 BK0));try go_wp2_with (first|((with_reducible refine gd 1 rfl ?_);refine bx_ 1 107 #[.bool false,.int .u64 a1,.int .u64 a2] rfl rfl ?_;intro gb0 hg w6 BK0 hb;have GE0:=bz HB hg;replace HB:=bs HB hb;clear hb hg;have hcz7:=X.k3 BK0)))
 go_ret2
 exact ⟨ae,bf HB⟩}};{
 rw [if_neg c2] at H
 have c0:(a1==0)=false:=beq_eq_false_iff_ne.mpr c2
 have c1:(a1 != 0)=true:=bne_iff_ne.mpr c2
 simp only [Option.some.injEq,Prod.mk.injEq] at H
 obtain ⟨rfl,rfl⟩:=H
 go_enter Tryd.func70,Tryd.ntmps70
 go_wp2_with (first|((with_reducible refine gd 1 rfl ?_);refine bx_ 1 107 #[.bool a0,.int .u64 a1,.int .u64 a2] rfl rfl ?_;intro gb0 hg w8 BK0 hb;have GE0:=bz HB hg;replace HB:=bs HB hb;clear hb hg;have hcz9:=X.k3 BK0))
 repeat (go_quiet (first|((with_reducible refine gd 1 rfl ?_);refine bx_ 1 107 #[.bool a0,.int .u64 a1,.int .u64 a2] rfl rfl ?_;intro gb0 hg w8 BK0 hb;have GE0:=bz HB hg;replace HB:=bs HB hb;clear hb hg;have hcz9:=X.k3 BK0));try go_wp2_with (first|((with_reducible refine gd 1 rfl ?_);refine bx_ 1 107 #[.bool a0,.int .u64 a1,.int .u64 a2] rfl rfl ?_;intro gb0 hg w8 BK0 hb;have GE0:=bz HB hg;replace HB:=bs HB hb;clear hb hg;have hcz9:=X.k3 BK0)))
 go_ret2
 exact ⟨ae,bf HB⟩}
end Go.Proofs.YtenphnkiacfmiaaDoor.X
