/- Walks: each '.calls' says that the Go function comes to what its Lean function tells. Conditions: as each theorem's head says. -/
import Derived.Test.YtenphnkiacfmiaaDoorXD
import Derived.Test.YtenphnkiacfmiaaDoorX0
import Derived.Test.YtenphnkiacfmiaaDoorX7
import Derived.Test.YtenphnkiacfmiaaDoorX8
import Derived.Test.YtenphnkiacfmiaaDoorX11
import Derived.Test.YtenphnkiacfmiaaDoorX12
namespace Go.Proofs.YtenphnkiacfmiaaDoor.X
open Go.RowKit Go.Proofs.YtenphnkiacfmiaaDoorW.PrintWords Go.Proofs.YtenphnkiacfmiaaDoorW.PrintLast Go.Proofs.YtenphnkiacfmiaaDoorW.PrintMore
attribute [local go_sem] max2_int min2_int max_two min_two max_three min_three max_four min_four
set_option linter.unusedVariables false
set_option maxHeartbeats 8000000
set_option maxRecDepth 100000
set_option linter.unusedSimpArgs false
def frac_added_fn53.T2:Bool × List (List Nat × List Nat):=(true,[([],[]),([0],[0]),([1],[1]),([],[]),([3],[3]),([4,2],[4]),([2,5,5],[2,5]),([],[]),([7,6,6,0,1,2,3,4,5,6,7],[6,7])])
def frac_added_fn53.B2:List Nat:=[0,1,3,0,8,31,63,0,255]
theorem frac_added_fn53.tab2:rtab .any (opsOf Tryd.f52 2)=frac_added_fn53.T2:=by kernel_rfl
theorem frac_added_fn53.bits2:waitsOk frac_added_fn53.T2.2 frac_added_fn53.B2=true:=by kernel_rfl
def frac_added_fn53.T3:Bool × List (List Nat × List Nat):=(true,[([],[]),([],[]),([1],[1]),([2],[2]),([],[]),([4],[4]),([5,3],[5]),([3,6,6],[3,6]),([0,7,7],[0,7]),([],[]),([9,8,8,0,1,2,3,4,5,6,7,8,9],[8,9])])
def frac_added_fn53.B3:List Nat:=[0,0,2,6,0,16,62,126,255,0,1023]
theorem frac_added_fn53.tab3:rtab .any (opsOf Tryd.f52 3)=frac_added_fn53.T3:=by kernel_rfl
theorem frac_added_fn53.bits3:waitsOk frac_added_fn53.T3.2 frac_added_fn53.B3=true:=by kernel_rfl
def frac_added_fn53.T4:Bool × List (List Nat × List Nat):=(true,[([],[]),([],[]),([0,1],[0,1]),([],[]),([3],[3]),([4,2],[4]),([],[]),([6],[6]),([7,5],[7]),([5,8,8],[5,8]),([2,9,9],[2,9]),([10],[10]),([10],[10]),([11,10,0,1,2,3,4,5,6,7,8,9,10,11,12],[11]),([12,13,0,1,2,3,4,5,6,7,8,9,10,11,12,13],[12])])
def frac_added_fn53.B4:List Nat:=[0,0,3,0,8,31,0,64,255,511,1023,2047,2047,8191,16383]
theorem frac_added_fn53.tab4:rtab .any (opsOf Tryd.f52 4)=frac_added_fn53.T4:=by kernel_rfl
theorem frac_added_fn53.bits4:waitsOk frac_added_fn53.T4.2 frac_added_fn53.B4=true:=by kernel_rfl
theorem frac_added_fn53.calls (k:Nat) (a0:Int) (a1:Int) (a2:Int) (a3:Int) (r1:Int) (r2:Int) (r3:Int) (w:World) (h:frac_added_fn53.f k a0 a1 a2 a3=some (r1,r2,r3)) (hT:TabOK w) :
  Calls Tryd.prog 52 #[.agg #[.int .i64 a0,.int .i64 a1],.agg #[.int .i64 a2,.int .i64 a3],.func (.func 53) #[] #[]] w fun e w'=>e=.returned (.tuple #[.agg #[.int .i64 r1,.int .i64 r2],.int .i64 r3])∧Below w.heap.size w w':=by
 have GT:=am hT
 clear hT
 have hu0:=Tryd.underlying36
 have hu1:=Tryd.underlying107
 have HB:=am (Below.refl w.heap.size w)
 have H:((frac_norm.f k a0 a1).bind fun bt0=>((frac_norm.f k a2 a3).bind fun bt1=>((frac_sized.f bt0.1).bind fun bt2=>((frac_sized.f bt1.2).bind fun bt3=>((frac_signed_times.f bt2.1 bt2.2.1 bt2.2.2 bt3.1 bt3.2.1 bt3.2.2).bind fun bt4=>((frac_sized.f bt1.1).bind fun bt5=>((frac_sized.f bt0.2).bind fun bt6=>((frac_signed_times.f bt5.1 bt5.2.1 bt5.2.2 bt6.1 bt6.2.1 bt6.2.2).bind fun bt7=>((frac_Add_1.f bt7.1 bt7.2.1 bt7.2.2).bind fun bt8=>((frac_signed_plus.f bt4.1 bt4.2.1 bt4.2.2 bt8.1 bt8.2.1 bt8.2.2).bind fun bt9=>((frac_sized.f bt0.2).bind fun bt10=>((frac_sized.f bt1.2).bind fun bt11=>((frac_signed_times.f bt10.1 bt10.2.1 bt10.2.2 bt11.1 bt11.2.1 bt11.2.2).bind fun bt12=>((frac_reduced.f k bt9.1 bt9.2.1 bt9.2.2 bt12.1 bt12.2.1 bt12.2.2).bind fun bt13=>(some (bt13.1,bt13.2.1,bt13.2.2))))))))))))))))=some (r1,r2,r3):=h
 clear h
 replace H:=bi_ H;obtain ⟨⟨t0,t1⟩,A3,H⟩:=H
 (try dsimp only at H)
 replace H:=bi_ H;obtain ⟨⟨t2,t3⟩,A4,H⟩:=H
 (try dsimp only at H)
 replace H:=bi_ H;obtain ⟨⟨t4,t5,t6⟩,A5,H⟩:=H
 (try dsimp only at H)
 replace H:=bi_ H;obtain ⟨⟨t7,t8,t9⟩,A6,H⟩:=H
 (try dsimp only at H)
 replace H:=bi_ H;obtain ⟨⟨t10,t11,t12⟩,A7,H⟩:=H
 (try dsimp only at H)
 replace H:=bi_ H;obtain ⟨⟨t13,t14,t15⟩,A8,H⟩:=H
 (try dsimp only at H)
 replace H:=bi_ H;obtain ⟨⟨t16,t17,t18⟩,A9,H⟩:=H
 (try dsimp only at H)
 replace H:=bi_ H;obtain ⟨⟨t19,t20,t21⟩,A0,H⟩:=H
 (try dsimp only at H)
 replace H:=bi_ H;obtain ⟨⟨t22,t23,t24⟩,A1,H⟩:=H
 (try dsimp only at H)
 replace H:=bi_ H;obtain ⟨⟨t25,t26,t27⟩,A2,H⟩:=H
 (try dsimp only at H)
 replace H:=bi_ H;obtain ⟨⟨t28,t29,t30⟩,A13,H⟩:=H
 (try dsimp only at H)
 replace H:=bi_ H;obtain ⟨⟨t31,t32,t33⟩,A14,H⟩:=H
 (try dsimp only at H)
 replace H:=bi_ H;obtain ⟨⟨t34,t35,t36⟩,A15,H⟩:=H
 (try dsimp only at H)
 replace H:=bi_ H;obtain ⟨⟨t37,t38,t39⟩,A16,H⟩:=H
 (try dsimp only at H)
 simp only [Option.some.injEq,Prod.mk.injEq] at H
 obtain ⟨rfl,rfl,rfl⟩:=H
 go_enter Tryd.func52,Tryd.ntmps52
 try go_wp2_with (first|((with_reducible refine gd 3 rfl ?_);refine bx_ 3 36 #[.int .i64 a0,.int .i64 a1] rfl rfl ?_;intro gb0 hg w0 BK0 hb;have GE0:=bz HB hg;replace HB:=bs HB hb;clear hb hg)|((with_reducible refine gd 4 rfl ?_);refine bx_ 4 36 #[.int .i64 a2,.int .i64 a3] rfl rfl ?_;intro gb1 hg w2 BK1 hb;have GE1:=bz HB hg;have ⟨NB0,NB1⟩:=nb BK0 hg;replace BK0:=bb BK0 hb;replace HB:=bs HB hb;clear hb hg)|((with_reducible refine gd 6 rfl ?_);refine bx_ 6 36 #[.int .i64 0,.int .i64 0] rfl rfl ?_;intro gb2 hg w3 BK2 hb;have GE2:=bz HB hg;have ⟨NB2,NB3⟩:=nb BK0 hg;have ⟨NB4,NB5⟩:=nb BK1 hg;replace BK0:=bb BK0 hb;replace BK1:=bb BK1 hb;replace HB:=bs HB hb;clear hb hg))
 replace BK0:=am (blk_drew BK0.out)
 replace BK1:=am (blk_drew BK1.out)
 replace BK2:=am (blk_drew BK2.out)
 replace HB:=am (below_drew1 HB.out)
 refine start_ (n:=6) (S:=fun w'=>c_ w' gb0 0 (.int .i64 a0)∧c_ w' gb0 1 (.int .i64 a1)∧c_ w' gb1 0 (.int .i64 a2)∧c_ w' gb1 1 (.int .i64 a3)) (ds:=[4,5]) (m_ 6 0) (by kernel_rfl) rfl rfl ⟨ct BK0 0,ct BK0 1,ct BK1 0,ct BK1 1⟩ (fun hHeld=>?_)
 generalize w3.drew=w4 at BK0 BK1 BK2 HB hHeld ⊢
 refine tk_ 0 (some 10) (m_ 6 1) rfl rfl (by kernel_rfl) hHeld ?_
 refine tk_ 2 (some 12) (m_ 6 5) rfl rfl (by kernel_rfl) hHeld ?_
 refine o1_ 1 (some 11) (m_ 6 7) rfl rfl (by kernel_rfl) (fun K hK=>?_)
 refine gs_ rfl Tryd.func50 (frac_norm.calls _ _ _ _ _ _ A3.out (tt GT)) ag ?_
 intro w5 hb
 replace BK0:=bb BK0 hb
 replace BK1:=bb BK1 hb
 replace BK2:=bb BK2 hb
 replace HB:=bs HB hb
 (try clear hb)
 refine hK.out _ _ ⟨ct BK0 0,ct BK0 1,ct BK1 0,ct BK1 1⟩ (fun hHeld=>?_)
 clear hK K
 refine nr_ (some 11) ?_
 refine o1_ 3 (some 13) (m_ 6 15) rfl rfl (by kernel_rfl) (fun K hK=>?_)
 refine gs_ rfl Tryd.func50 (frac_norm.calls _ _ _ _ _ _ A4.out (tt GT)) ag ?_
 intro w6 hb
 replace BK0:=bb BK0 hb
 replace BK1:=bb BK1 hb
 replace BK2:=bb BK2 hb
 replace HB:=bs HB hb
 (try clear hb)
 refine hK.out _ _ ⟨ct BK0 0,ct BK0 1,ct BK1 0,ct BK1 1⟩ (fun hHeld=>?_)
 clear hK K
 refine nr_ (some 13) ?_
 refine last_ (i:=4) (N:=none) (m_ 6 31) rfl rfl (by kernel_rfl) (by decide) (fun K hK=>?_)
 have hs0:c_ w6 gb0 0 (.int .i64 a0):=ct BK0 0
 have hfs0:=blk_frozen BK0.out 0
 have hns0:=NB1.out
 have hns1:=NB3.out
 have hms0:=NB0.out
 have hms1:=NB2.out
 have hs1:c_ w6 gb0 1 (.int .i64 a1):=ct BK0 1
 have hfs1:=blk_frozen BK0.out 1
 have hns2:=NB1.out
 have hns3:=NB3.out
 have hms2:=NB0.out
 have hms3:=NB2.out
 refine skip_ (w1:=?_) (by rfl) rfl ?_ ?_
 rotate_left;{
 go_simp
 rfl}
 refine hK.out _ _ ?_
 clear hK K
 refine last_ (i:=5) (N:=none) (m_ 6 63) rfl rfl (by kernel_rfl) (by decide) (fun K hK=>?_)
 have hs2:c_ w6 gb1 0 (.int .i64 a2):=ct BK1 0
 have hfs2:=blk_frozen BK1.out 0
 have hns4:=NB0.out
 have hns5:=NB5.out
 have hms4:=NB1.out
 have hms5:=NB4.out
 have hs3:c_ w6 gb1 1 (.int .i64 a3):=ct BK1 1
 have hfs3:=blk_frozen BK1.out 1
 have hns6:=NB0.out
 have hns7:=NB5.out
 have hms6:=NB1.out
 have hms7:=NB4.out
 refine skip_ (w1:=?_) (by rfl) rfl ?_ ?_
 rotate_left;{
 go_simp
 rfl}
 refine hK.out _ _ ?_
 clear hK K
 refine done_ (by kernel_rfl) ?_
 try go_wp2
 have n0:Aside0 (((((w6.setCell ⟨gb0,0,none⟩ (.int .i64 t0)).setCell ⟨gb0,1,none⟩ (.int .i64 t1)).setCell ⟨gb1,0,none⟩ (.int .i64 t2)).setCell ⟨gb1,1,none⟩ (.int .i64 t3)).heap[gb0]?=some (.cells #[.int .i64 t0,.int .i64 t1] 36 (0,0))):=bq_ BK0
 have n1:Aside0 (((((w6.setCell ⟨gb0,0,none⟩ (.int .i64 t0)).setCell ⟨gb0,1,none⟩ (.int .i64 t1)).setCell ⟨gb1,0,none⟩ (.int .i64 t2)).setCell ⟨gb1,1,none⟩ (.int .i64 t3)).heap[gb1]?=some (.cells #[.int .i64 t2,.int .i64 t3] 36 (0,0))):=bq_ BK1
 have n2:Aside0 (((((w6.setCell ⟨gb0,0,none⟩ (.int .i64 t0)).setCell ⟨gb0,1,none⟩ (.int .i64 t1)).setCell ⟨gb1,0,none⟩ (.int .i64 t2)).setCell ⟨gb1,1,none⟩ (.int .i64 t3)).heap[gb2]?=some (.cells #[.int .i64 0,.int .i64 0] 36 (0,0))):=bu_ BK2
 have n3:Aside0 (Below w.heap.size w ((((w6.setCell ⟨gb0,0,none⟩ (.int .i64 t0)).setCell ⟨gb0,1,none⟩ (.int .i64 t1)).setCell ⟨gb1,0,none⟩ (.int .i64 t2)).setCell ⟨gb1,1,none⟩ (.int .i64 t3))):=⟨bf HB⟩
 (try clear BK0);(try clear BK1);(try clear BK2);(try clear HB)
 generalize ((((w6.setCell ⟨gb0,0,none⟩ (.int .i64 t0)).setCell ⟨gb0,1,none⟩ (.int .i64 t1)).setCell ⟨gb1,0,none⟩ (.int .i64 t2)).setCell ⟨gb1,1,none⟩ (.int .i64 t3))=w7 at n0 n1 n2 n3 ⊢
 have BK0:=n0
 have BK1:=n1
 have BK2:=n2
 have HB:=n3
 clear n0 n1 n2 n3
 replace BK0:=am (blk_drew BK0.out)
 replace BK1:=am (blk_drew BK1.out)
 replace BK2:=am (blk_drew BK2.out)
 replace HB:=am (below_drew1 HB.out)
 refine start_ (n:=9) (S:=fun w'=>c_ w' gb0 0 (.int .i64 t0)∧c_ w' gb0 1 (.int .i64 t1)∧c_ w' gb1 0 (.int .i64 t2)∧c_ w' gb1 1 (.int .i64 t3)) (ds:=[]) (m_ 9 0) (by kernel_rfl) rfl rfl ⟨ct BK0 0,ct BK0 1,ct BK1 0,ct BK1 1⟩ (fun hHeld=>?_);refine with_tabW frac_added_fn53.tab2 frac_added_fn53.bits2 (fun HT_ HW_=>?_)
 generalize w7.drew=w8 at BK0 BK1 BK2 HB hHeld ⊢
 refine pu_ 0 (some 14) (m_ 9 1) rfl rfl (ao HT_) ?_
 refine pu_ 3 (some 17) (m_ 9 9) rfl rfl (ao HT_) ?_
 refine tk_ 1 (some 15) (m_ 9 11) rfl rfl (tw HT_ HW_) hHeld ?_
 refine tk_ 4 (some 18) (m_ 9 27) rfl rfl (tw HT_ HW_) hHeld ?_
 refine join_ (σ:=Nat) 1 (m_ 9 255) (fun s_=>[(16,.agg #[.bool t4,.int .u64 t5,.int .u64 t6]),(19,.agg #[.bool t7,.int .u64 t8,.int .u64 t9]),(20,.agg #[.bool t10,.int .u64 t11,.int .u64 t12]),(8,.pointer (some ⟨s_,0,none⟩))]) (fun s_ w'=>(c_ w' gb0 0 (.int .i64 t0)∧c_ w' gb0 1 (.int .i64 t1)∧c_ w' gb1 0 (.int .i64 t2)∧c_ w' gb1 1 (.int .i64 t3))∧(w'.heap[gb0]?=some (.cells #[.int .i64 t0,.int .i64 t1] 36 (0,0)))∧(w'.heap[gb1]?=some (.cells #[.int .i64 t2,.int .i64 t3] 36 (0,0)))∧(w'.heap[gb2]?=some (.cells #[.int .i64 0,.int .i64 0] 36 (0,0)))∧(w'.heap[s_]?=some (.cells #[.bool false,.int .u64 0,.int .u64 0] 107 (0,0)))∧(w.heap.size≤s_)∧(w.heap.size≤s_)∧(gb0≠s_)∧(s_≠gb0)∧(gb1≠s_)∧(s_≠gb1)∧(gb2≠s_)∧(s_≠gb2)∧(Below w.heap.size w w')) ?_ ?_
 rotate_left;{
 intro hCont
 refine two_ (i:=2) (j:=7) (Ni:=some 16) (Nj:=some 8) (m_ 9 31) (m_ 9 155) rfl rfl rfl rfl (two_of HT_.out (by kernel_rfl)) (by decide) (by decide) (fun K hK=>?_) (fun K hK=>?_);{
 skip
 refine gs_ rfl Tryd.func60 (frac_sized.calls _ _ _ _ _ A5.out) ag ?_
 intro w9 hb
 replace BK0:=bb BK0 hb
 replace BK1:=bb BK1 hb
 replace BK2:=bb BK2 hb
 replace HB:=bs HB hb
 (try clear hb)
 refine hK.out _ _ ⟨ct BK0 0,ct BK0 1,ct BK1 0,ct BK1 1⟩ (fun hHeld=>?_)
 clear hK K
 refine nr_ (some 16) ?_
 refine two_ (i:=5) (j:=7) (Ni:=some 19) (Nj:=some 8) (m_ 9 63) (m_ 9 159) rfl rfl rfl rfl (two_of HT_.out (by kernel_rfl)) (by decide) (by decide) (fun K hK=>?_) (fun K hK=>?_);{
 skip
 refine gs_ rfl Tryd.func60 (frac_sized.calls _ _ _ _ _ A6.out) ag ?_
 intro w30 hb
 replace BK0:=bb BK0 hb
 replace BK1:=bb BK1 hb
 replace BK2:=bb BK2 hb
 replace HB:=bs HB hb
 (try clear hb)
 refine hK.out _ _ ⟨ct BK0 0,ct BK0 1,ct BK1 0,ct BK1 1⟩ (fun hHeld=>?_)
 clear hK K
 refine nr_ (some 19) ?_
 refine two_ (i:=6) (j:=7) (Ni:=some 20) (Nj:=some 8) (m_ 9 127) (m_ 9 191) rfl rfl rfl rfl (two_of HT_.out (by kernel_rfl)) (by decide) (by decide) (fun K hK=>?_) (fun K hK=>?_);{
 skip
 refine gs_ rfl Tryd.func61 (frac_signed_times.calls _ _ _ _ _ _ _ _ _ _ A7.out) ag ?_
 intro w31 hb
 replace BK0:=bb BK0 hb
 replace BK1:=bb BK1 hb
 replace BK2:=bb BK2 hb
 replace HB:=bs HB hb
 (try clear hb)
 refine hK.out _ _ ⟨ct BK0 0,ct BK0 1,ct BK1 0,ct BK1 1⟩ (fun hHeld=>?_)
 clear hK K
 refine nr_ (some 20) ?_
 refine o1_ 7 (some 8) (m_ 9 255) rfl rfl (oo HT_) (fun K hK=>?_)
 refine box_step ?hg (N:=8) ?hd (cs:=#[.bool false,.int .u64 0,.int .u64 0]) (t:=107) ?hr ?_;(case hd=>rfl);(case hg=>rfl);(case hr=>first|(go_simp;done)|(go_simp;rfl))
 intro gb3 hg w32 hbox hb
 have BK3:=am (hbox)
 have GW0:=bz HB hg
 have GE3:=bz HB hg
 have NB6:=bl BK0 hg
 have NB7:=bg BK0 hg
 have NB8:=bl BK1 hg
 have NB9:=bg BK1 hg
 have NB10:=bl BK2 hg
 have NB11:=bg BK2 hg
 replace BK0:=bb BK0 hb
 replace BK1:=bb BK1 hb
 replace BK2:=bb BK2 hb
 replace HB:=bs HB hb
 clear hb hg
 refine hK.out _ _ ⟨ct BK0 0,ct BK0 1,ct BK1 0,ct BK1 1⟩ (fun hHeld=>?_)
 clear hK K
 refine nr_ (some 8) ?_
 exact norm_ (by simp only [putAll,Act.put,si,s0,s1]) (hCont (gb3) _ ⟨hHeld,(bx BK0),(bx BK1),(bx BK2),(bx BK3),GW0.out,GE3.out,NB6.out,NB7.out,NB8.out,NB9.out,NB10.out,NB11.out,(bf HB)⟩)};{
 skip
 refine box_step ?hg (N:=8) ?hd (cs:=#[.bool false,.int .u64 0,.int .u64 0]) (t:=107) ?hr ?_;(case hd=>rfl);(case hg=>rfl);(case hr=>first|(go_simp;done)|(go_simp;rfl))
 intro gb3 hg w31 hbox hb
 have BK3:=am (hbox)
 have GW0:=bz HB hg
 have GE3:=bz HB hg
 have NB6:=bl BK0 hg
 have NB7:=bg BK0 hg
 have NB8:=bl BK1 hg
 have NB9:=bg BK1 hg
 have NB10:=bl BK2 hg
 have NB11:=bg BK2 hg
 replace BK0:=bb BK0 hb
 replace BK1:=bb BK1 hb
 replace BK2:=bb BK2 hb
 replace HB:=bs HB hb
 clear hb hg
 refine hK.out _ _ ⟨ct BK0 0,ct BK0 1,ct BK1 0,ct BK1 1⟩ (fun hHeld=>?_)
 clear hK K
 refine nr_ (some 8) ?_
 refine o1_ 6 (some 20) (m_ 9 255) rfl rfl (oo HT_) (fun K hK=>?_)
 refine gs_ rfl Tryd.func61 (frac_signed_times.calls _ _ _ _ _ _ _ _ _ _ A7.out) ag ?_
 intro w32 hb
 replace BK0:=bb BK0 hb
 replace BK1:=bb BK1 hb
 replace BK2:=bb BK2 hb
 replace BK3:=bb BK3 hb
 replace HB:=bs HB hb
 (try clear hb)
 refine hK.out _ _ ⟨ct BK0 0,ct BK0 1,ct BK1 0,ct BK1 1⟩ (fun hHeld=>?_)
 clear hK K
 refine nr_ (some 20) ?_
 exact norm_ (by simp only [putAll,Act.put,si,s0,s1]) (hCont (gb3) _ ⟨hHeld,(bx BK0),(bx BK1),(bx BK2),(bx BK3),GW0.out,GE3.out,NB6.out,NB7.out,NB8.out,NB9.out,NB10.out,NB11.out,(bf HB)⟩)}};{
 skip
 refine box_step ?hg (N:=8) ?hd (cs:=#[.bool false,.int .u64 0,.int .u64 0]) (t:=107) ?hr ?_;(case hd=>rfl);(case hg=>rfl);(case hr=>first|(go_simp;done)|(go_simp;rfl))
 intro gb3 hg w30 hbox hb
 have BK3:=am (hbox)
 have GW0:=bz HB hg
 have GE3:=bz HB hg
 have NB6:=bl BK0 hg
 have NB7:=bg BK0 hg
 have NB8:=bl BK1 hg
 have NB9:=bg BK1 hg
 have NB10:=bl BK2 hg
 have NB11:=bg BK2 hg
 replace BK0:=bb BK0 hb
 replace BK1:=bb BK1 hb
 replace BK2:=bb BK2 hb
 replace HB:=bs HB hb
 clear hb hg
 refine hK.out _ _ ⟨ct BK0 0,ct BK0 1,ct BK1 0,ct BK1 1⟩ (fun hHeld=>?_)
 clear hK K
 refine nr_ (some 8) ?_
 refine o1_ 5 (some 19) (m_ 9 191) rfl rfl (oo HT_) (fun K hK=>?_)
 refine gs_ rfl Tryd.func60 (frac_sized.calls _ _ _ _ _ A6.out) ag ?_
 intro w31 hb
 replace BK0:=bb BK0 hb
 replace BK1:=bb BK1 hb
 replace BK2:=bb BK2 hb
 replace BK3:=bb BK3 hb
 replace HB:=bs HB hb
 (try clear hb)
 refine hK.out _ _ ⟨ct BK0 0,ct BK0 1,ct BK1 0,ct BK1 1⟩ (fun hHeld=>?_)
 clear hK K
 refine nr_ (some 19) ?_
 refine o1_ 6 (some 20) (m_ 9 255) rfl rfl (oo HT_) (fun K hK=>?_)
 refine gs_ rfl Tryd.func61 (frac_signed_times.calls _ _ _ _ _ _ _ _ _ _ A7.out) ag ?_
 intro w32 hb
 replace BK0:=bb BK0 hb
 replace BK1:=bb BK1 hb
 replace BK2:=bb BK2 hb
 replace BK3:=bb BK3 hb
 replace HB:=bs HB hb
 (try clear hb)
 refine hK.out _ _ ⟨ct BK0 0,ct BK0 1,ct BK1 0,ct BK1 1⟩ (fun hHeld=>?_)
 clear hK K
 refine nr_ (some 20) ?_
 exact norm_ (by simp only [putAll,Act.put,si,s0,s1]) (hCont (gb3) _ ⟨hHeld,(bx BK0),(bx BK1),(bx BK2),(bx BK3),GW0.out,GE3.out,NB6.out,NB7.out,NB8.out,NB9.out,NB10.out,NB11.out,(bf HB)⟩)}};{
 skip
 refine box_step ?hg (N:=8) ?hd (cs:=#[.bool false,.int .u64 0,.int .u64 0]) (t:=107) ?hr ?_;(case hd=>rfl);(case hg=>rfl);(case hr=>first|(go_simp;done)|(go_simp;rfl))
 intro gb3 hg w9 hbox hb
 have BK3:=am (hbox)
 have GW0:=bz HB hg
 have GE3:=bz HB hg
 have NB6:=bl BK0 hg
 have NB7:=bg BK0 hg
 have NB8:=bl BK1 hg
 have NB9:=bg BK1 hg
 have NB10:=bl BK2 hg
 have NB11:=bg BK2 hg
 replace BK0:=bb BK0 hb
 replace BK1:=bb BK1 hb
 replace BK2:=bb BK2 hb
 replace HB:=bs HB hb
 clear hb hg
 refine hK.out _ _ ⟨ct BK0 0,ct BK0 1,ct BK1 0,ct BK1 1⟩ (fun hHeld=>?_)
 clear hK K
 refine nr_ (some 8) ?_
 refine o1_ 2 (some 16) (m_ 9 159) rfl rfl (oo HT_) (fun K hK=>?_)
 refine gs_ rfl Tryd.func60 (frac_sized.calls _ _ _ _ _ A5.out) ag ?_
 intro w30 hb
 replace BK0:=bb BK0 hb
 replace BK1:=bb BK1 hb
 replace BK2:=bb BK2 hb
 replace BK3:=bb BK3 hb
 replace HB:=bs HB hb
 (try clear hb)
 refine hK.out _ _ ⟨ct BK0 0,ct BK0 1,ct BK1 0,ct BK1 1⟩ (fun hHeld=>?_)
 clear hK K
 refine nr_ (some 16) ?_
 refine o1_ 5 (some 19) (m_ 9 191) rfl rfl (oo HT_) (fun K hK=>?_)
 refine gs_ rfl Tryd.func60 (frac_sized.calls _ _ _ _ _ A6.out) ag ?_
 intro w31 hb
 replace BK0:=bb BK0 hb
 replace BK1:=bb BK1 hb
 replace BK2:=bb BK2 hb
 replace BK3:=bb BK3 hb
 replace HB:=bs HB hb
 (try clear hb)
 refine hK.out _ _ ⟨ct BK0 0,ct BK0 1,ct BK1 0,ct BK1 1⟩ (fun hHeld=>?_)
 clear hK K
 refine nr_ (some 19) ?_
 refine o1_ 6 (some 20) (m_ 9 255) rfl rfl (oo HT_) (fun K hK=>?_)
 refine gs_ rfl Tryd.func61 (frac_signed_times.calls _ _ _ _ _ _ _ _ _ _ A7.out) ag ?_
 intro w32 hb
 replace BK0:=bb BK0 hb
 replace BK1:=bb BK1 hb
 replace BK2:=bb BK2 hb
 replace BK3:=bb BK3 hb
 replace HB:=bs HB hb
 (try clear hb)
 refine hK.out _ _ ⟨ct BK0 0,ct BK0 1,ct BK1 0,ct BK1 1⟩ (fun hHeld=>?_)
 clear hK K
 refine nr_ (some 20) ?_
 exact norm_ (by simp only [putAll,Act.put,si,s0,s1]) (hCont (gb3) _ ⟨hHeld,(bx BK0),(bx BK1),(bx BK2),(bx BK3),GW0.out,GE3.out,NB6.out,NB7.out,NB8.out,NB9.out,NB10.out,NB11.out,(bf HB)⟩)}}
 rintro gb3 w33 ⟨hS_,h0,h1,h2,h3,h4,h5,h6,h7,h8,h9,h10,h11,h12⟩
 have n0:Aside0 (w33.heap[gb0]?=some (.cells #[.int .i64 t0,.int .i64 t1] 36 (0,0))):=⟨h0⟩
 have n1:Aside0 (w33.heap[gb1]?=some (.cells #[.int .i64 t2,.int .i64 t3] 36 (0,0))):=⟨h1⟩
 have n2:Aside0 (w33.heap[gb2]?=some (.cells #[.int .i64 0,.int .i64 0] 36 (0,0))):=⟨h2⟩
 have n3:Aside0 (w33.heap[gb3]?=some (.cells #[.bool false,.int .u64 0,.int .u64 0] 107 (0,0))):=⟨h3⟩
 have n4:Aside0 (w.heap.size≤gb3):=⟨h4⟩
 have n5:Aside0 (w.heap.size≤gb3):=⟨h5⟩
 have n6:Aside0 (gb0≠gb3):=⟨h6⟩
 have n7:Aside0 (gb3≠gb0):=⟨h7⟩
 have n8:Aside0 (gb1≠gb3):=⟨h8⟩
 have n9:Aside0 (gb3≠gb1):=⟨h9⟩
 have n10:Aside0 (gb2≠gb3):=⟨h10⟩
 have n11:Aside0 (gb3≠gb2):=⟨h11⟩
 have n12:Aside0 (Below w.heap.size w w33):=⟨h12⟩
 clear BK0
 clear BK1
 clear BK2
 clear HB
 clear h0 h1 h2 h3 h4 h5 h6 h7 h8 h9 h10 h11 h12
 have BK0:=n0
 have BK1:=n1
 have BK2:=n2
 have BK3:=n3
 have GW0:=n4
 have GE3:=n5
 have NB6:=n6
 have NB7:=n7
 have NB8:=n8
 have NB9:=n9
 have NB10:=n10
 have NB11:=n11
 have HB:=n12
 clear n0 n1 n2 n3 n4 n5 n6 n7 n8 n9 n10 n11 n12
 have hHeld:c_ w33 gb0 0 (.int .i64 t0)∧c_ w33 gb0 1 (.int .i64 t1)∧c_ w33 gb1 0 (.int .i64 t2)∧c_ w33 gb1 1 (.int .i64 t3):=hS_
 refine norm_ (a':=?_) ?_ ?_
 rotate_left;{
 simp only [putAll,Act.put,si,s0,s1]
 rfl}
 refine o1_ 8 (none) (m_ 9 511) rfl rfl (oo HT_) (fun K hK=>?_)
 have hs4:c_ w33 gb3 0 (.bool false):=ct BK3 0
 have hfs4:=blk_frozen BK3.out 0
 have hns8:=NB6.out
 have hns9:=NB8.out
 have hns10:=NB10.out
 have hms8:=NB7.out
 have hms9:=NB9.out
 have hms10:=NB11.out
 have hs5:c_ w33 gb3 1 (.int .u64 0):=ct BK3 1
 have hfs5:=blk_frozen BK3.out 1
 have hns11:=NB6.out
 have hns12:=NB8.out
 have hns13:=NB10.out
 have hms11:=NB7.out
 have hms12:=NB9.out
 have hms13:=NB11.out
 have hs6:c_ w33 gb3 2 (.int .u64 0):=ct BK3 2
 have hfs6:=blk_frozen BK3.out 2
 have hns14:=NB6.out
 have hns15:=NB8.out
 have hns16:=NB10.out
 have hms14:=NB7.out
 have hms15:=NB9.out
 have hms16:=NB11.out
 refine skip_ (w1:=?_) (by rfl) rfl ?_ ?_
 rotate_left;{
 go_simp
 rfl}
 refine hK.out _ _ (by obtain ⟨d0,d1,d2,d3⟩:=hHeld;exact ⟨fa_ NB6 (fa_ NB6 (fa_ NB6 d0)),fa_ NB6 (fa_ NB6 (fa_ NB6 d1)),fa_ NB8 (fa_ NB8 (fa_ NB8 d2)),fa_ NB8 (fa_ NB8 (fa_ NB8 d3))⟩) (fun hHeld=>?_)
 clear hK K
 refine done_ (done_of HT_.out (by kernel_rfl)) ?_
 try go_wp2
 have n0:Aside0 ((((w33.setCell ⟨gb3,0,none⟩ (.bool t10)).setCell ⟨gb3,1,none⟩ (.int .u64 t11)).setCell ⟨gb3,2,none⟩ (.int .u64 t12)).heap[gb0]?=some (.cells #[.int .i64 t0,.int .i64 t1] 36 (0,0))):=bu_ BK0
 have n1:Aside0 ((((w33.setCell ⟨gb3,0,none⟩ (.bool t10)).setCell ⟨gb3,1,none⟩ (.int .u64 t11)).setCell ⟨gb3,2,none⟩ (.int .u64 t12)).heap[gb1]?=some (.cells #[.int .i64 t2,.int .i64 t3] 36 (0,0))):=bu_ BK1
 have n2:Aside0 ((((w33.setCell ⟨gb3,0,none⟩ (.bool t10)).setCell ⟨gb3,1,none⟩ (.int .u64 t11)).setCell ⟨gb3,2,none⟩ (.int .u64 t12)).heap[gb2]?=some (.cells #[.int .i64 0,.int .i64 0] 36 (0,0))):=bu_ BK2
 have n3:Aside0 ((((w33.setCell ⟨gb3,0,none⟩ (.bool t10)).setCell ⟨gb3,1,none⟩ (.int .u64 t11)).setCell ⟨gb3,2,none⟩ (.int .u64 t12)).heap[gb3]?=some (.cells #[.bool t10,.int .u64 t11,.int .u64 t12] 107 (0,0))):=bq_ BK3
 have n4:Aside0 (Below w.heap.size w (((w33.setCell ⟨gb3,0,none⟩ (.bool t10)).setCell ⟨gb3,1,none⟩ (.int .u64 t11)).setCell ⟨gb3,2,none⟩ (.int .u64 t12))):=⟨bf HB⟩
 (try clear BK0);(try clear BK1);(try clear BK2);(try clear BK3);(try clear HB)
 generalize (((w33.setCell ⟨gb3,0,none⟩ (.bool t10)).setCell ⟨gb3,1,none⟩ (.int .u64 t11)).setCell ⟨gb3,2,none⟩ (.int .u64 t12))=w37 at n0 n1 n2 n3 n4 ⊢
 have BK0:=n0
 have BK1:=n1
 have BK2:=n2
 have BK3:=n3
 have HB:=n4
 clear n0 n1 n2 n3 n4
 replace BK0:=am (blk_drew BK0.out)
 replace BK1:=am (blk_drew BK1.out)
 replace BK2:=am (blk_drew BK2.out)
 replace BK3:=am (blk_drew BK3.out)
 replace HB:=am (below_drew1 HB.out)
 refine start_ (n:=11) (S:=fun w'=>c_ w' gb1 0 (.int .i64 t2)∧c_ w' gb1 1 (.int .i64 t3)∧c_ w' gb0 0 (.int .i64 t0)∧c_ w' gb0 1 (.int .i64 t1)) (ds:=[]) (m_ 11 0) (by kernel_rfl) rfl rfl ⟨ct BK1 0,ct BK1 1,ct BK0 0,ct BK0 1⟩ (fun hHeld=>?_);refine with_tabW frac_added_fn53.tab3 frac_added_fn53.bits3 (fun HT_ HW_=>?_)
 generalize w37.drew=w38 at BK0 BK1 BK2 BK3 HB hHeld ⊢
 refine pu_ 0 (some 21) (m_ 11 1) rfl rfl (ao HT_) ?_
 refine pu_ 1 (some 22) (m_ 11 3) rfl rfl (ao HT_) ?_
 refine pu_ 4 (some 25) (m_ 11 19) rfl rfl (ao HT_) ?_
 refine tk_ 2 (some 23) (m_ 11 23) rfl rfl (tw HT_ HW_) hHeld ?_
 refine tk_ 5 (some 26) (m_ 11 55) rfl rfl (tw HT_ HW_) hHeld ?_
 refine join_ (σ:=Nat) 1 (m_ 11 1023) (fun s_=>[(24,.agg #[.bool t13,.int .u64 t14,.int .u64 t15]),(27,.agg #[.bool t16,.int .u64 t17,.int .u64 t18]),(28,.agg #[.bool t19,.int .u64 t20,.int .u64 t21]),(29,.agg #[.bool t22,.int .u64 t23,.int .u64 t24]),(9,.pointer (some ⟨s_,0,none⟩))]) (fun s_ w'=>(c_ w' gb1 0 (.int .i64 t2)∧c_ w' gb1 1 (.int .i64 t3)∧c_ w' gb0 0 (.int .i64 t0)∧c_ w' gb0 1 (.int .i64 t1))∧(w'.heap[gb0]?=some (.cells #[.int .i64 t0,.int .i64 t1] 36 (0,0)))∧(w'.heap[gb1]?=some (.cells #[.int .i64 t2,.int .i64 t3] 36 (0,0)))∧(w'.heap[gb2]?=some (.cells #[.int .i64 0,.int .i64 0] 36 (0,0)))∧(w'.heap[gb3]?=some (.cells #[.bool t10,.int .u64 t11,.int .u64 t12] 107 (0,0)))∧(w'.heap[s_]?=some (.cells #[.bool false,.int .u64 0,.int .u64 0] 107 (0,0)))∧(w.heap.size≤s_)∧(w.heap.size≤s_)∧(gb0≠s_)∧(s_≠gb0)∧(gb1≠s_)∧(s_≠gb1)∧(gb2≠s_)∧(s_≠gb2)∧(gb3≠s_)∧(s_≠gb3)∧(Below w.heap.size w w')) ?_ ?_
 rotate_left;{
 intro hJ0
 refine join_ (σ:=Unit) 2 (m_ 11 511) (fun s_=>[(24,.agg #[.bool t13,.int .u64 t14,.int .u64 t15]),(27,.agg #[.bool t16,.int .u64 t17,.int .u64 t18]),(28,.agg #[.bool t19,.int .u64 t20,.int .u64 t21]),(29,.agg #[.bool t22,.int .u64 t23,.int .u64 t24])]) (fun s_ w'=>(c_ w' gb1 0 (.int .i64 t2)∧c_ w' gb1 1 (.int .i64 t3)∧c_ w' gb0 0 (.int .i64 t0)∧c_ w' gb0 1 (.int .i64 t1))∧(w'.heap[gb0]?=some (.cells #[.int .i64 t0,.int .i64 t1] 36 (0,0)))∧(w'.heap[gb1]?=some (.cells #[.int .i64 t2,.int .i64 t3] 36 (0,0)))∧(w'.heap[gb2]?=some (.cells #[.int .i64 0,.int .i64 0] 36 (0,0)))∧(w'.heap[gb3]?=some (.cells #[.bool t10,.int .u64 t11,.int .u64 t12] 107 (0,0)))∧(Below w.heap.size w w')) ?_ ?_
 rotate_left;{
 intro hJ1
 refine join_ (σ:=Nat) 2 (m_ 11 767) (fun s_=>[(24,.agg #[.bool t13,.int .u64 t14,.int .u64 t15]),(27,.agg #[.bool t16,.int .u64 t17,.int .u64 t18]),(28,.agg #[.bool t19,.int .u64 t20,.int .u64 t21]),(9,.pointer (some ⟨s_,0,none⟩))]) (fun s_ w'=>(c_ w' gb1 0 (.int .i64 t2)∧c_ w' gb1 1 (.int .i64 t3)∧c_ w' gb0 0 (.int .i64 t0)∧c_ w' gb0 1 (.int .i64 t1))∧(w'.heap[gb0]?=some (.cells #[.int .i64 t0,.int .i64 t1] 36 (0,0)))∧(w'.heap[gb1]?=some (.cells #[.int .i64 t2,.int .i64 t3] 36 (0,0)))∧(w'.heap[gb2]?=some (.cells #[.int .i64 0,.int .i64 0] 36 (0,0)))∧(w'.heap[gb3]?=some (.cells #[.bool t10,.int .u64 t11,.int .u64 t12] 107 (0,0)))∧(w'.heap[s_]?=some (.cells #[.bool false,.int .u64 0,.int .u64 0] 107 (0,0)))∧(w.heap.size≤s_)∧(w.heap.size≤s_)∧(gb0≠s_)∧(s_≠gb0)∧(gb1≠s_)∧(s_≠gb1)∧(gb2≠s_)∧(s_≠gb2)∧(gb3≠s_)∧(s_≠gb3)∧(Below w.heap.size w w')) ?_ ?_
 rotate_left;{
 intro hJ2
 refine join_ (σ:=Unit) 3 (m_ 11 255) (fun s_=>[(24,.agg #[.bool t13,.int .u64 t14,.int .u64 t15]),(27,.agg #[.bool t16,.int .u64 t17,.int .u64 t18]),(28,.agg #[.bool t19,.int .u64 t20,.int .u64 t21])]) (fun s_ w'=>(c_ w' gb1 0 (.int .i64 t2)∧c_ w' gb1 1 (.int .i64 t3)∧c_ w' gb0 0 (.int .i64 t0)∧c_ w' gb0 1 (.int .i64 t1))∧(w'.heap[gb0]?=some (.cells #[.int .i64 t0,.int .i64 t1] 36 (0,0)))∧(w'.heap[gb1]?=some (.cells #[.int .i64 t2,.int .i64 t3] 36 (0,0)))∧(w'.heap[gb2]?=some (.cells #[.int .i64 0,.int .i64 0] 36 (0,0)))∧(w'.heap[gb3]?=some (.cells #[.bool t10,.int .u64 t11,.int .u64 t12] 107 (0,0)))∧(Below w.heap.size w w')) ?_ ?_
 rotate_left;{
 intro hJ4
 refine join_ (σ:=Nat) 3 (m_ 11 639) (fun s_=>[(24,.agg #[.bool t13,.int .u64 t14,.int .u64 t15]),(27,.agg #[.bool t16,.int .u64 t17,.int .u64 t18]),(9,.pointer (some ⟨s_,0,none⟩))]) (fun s_ w'=>(c_ w' gb1 0 (.int .i64 t2)∧c_ w' gb1 1 (.int .i64 t3)∧c_ w' gb0 0 (.int .i64 t0)∧c_ w' gb0 1 (.int .i64 t1))∧(w'.heap[gb0]?=some (.cells #[.int .i64 t0,.int .i64 t1] 36 (0,0)))∧(w'.heap[gb1]?=some (.cells #[.int .i64 t2,.int .i64 t3] 36 (0,0)))∧(w'.heap[gb2]?=some (.cells #[.int .i64 0,.int .i64 0] 36 (0,0)))∧(w'.heap[gb3]?=some (.cells #[.bool t10,.int .u64 t11,.int .u64 t12] 107 (0,0)))∧(w'.heap[s_]?=some (.cells #[.bool false,.int .u64 0,.int .u64 0] 107 (0,0)))∧(w.heap.size≤s_)∧(w.heap.size≤s_)∧(gb0≠s_)∧(s_≠gb0)∧(gb1≠s_)∧(s_≠gb1)∧(gb2≠s_)∧(s_≠gb2)∧(gb3≠s_)∧(s_≠gb3)∧(Below w.heap.size w w')) ?_ ?_
 rotate_left;{
 intro hJ5
 refine join_ (σ:=Unit) 4 (m_ 11 127) (fun s_=>[(24,.agg #[.bool t13,.int .u64 t14,.int .u64 t15]),(27,.agg #[.bool t16,.int .u64 t17,.int .u64 t18])]) (fun s_ w'=>(c_ w' gb1 0 (.int .i64 t2)∧c_ w' gb1 1 (.int .i64 t3)∧c_ w' gb0 0 (.int .i64 t0)∧c_ w' gb0 1 (.int .i64 t1))∧(w'.heap[gb0]?=some (.cells #[.int .i64 t0,.int .i64 t1] 36 (0,0)))∧(w'.heap[gb1]?=some (.cells #[.int .i64 t2,.int .i64 t3] 36 (0,0)))∧(w'.heap[gb2]?=some (.cells #[.int .i64 0,.int .i64 0] 36 (0,0)))∧(w'.heap[gb3]?=some (.cells #[.bool t10,.int .u64 t11,.int .u64 t12] 107 (0,0)))∧(Below w.heap.size w w')) ?_ ?_
 rotate_left;{
 intro hJ6
 refine join_ (σ:=Nat) 4 (m_ 11 575) (fun s_=>[(24,.agg #[.bool t13,.int .u64 t14,.int .u64 t15]),(9,.pointer (some ⟨s_,0,none⟩))]) (fun s_ w'=>(c_ w' gb1 0 (.int .i64 t2)∧c_ w' gb1 1 (.int .i64 t3)∧c_ w' gb0 0 (.int .i64 t0)∧c_ w' gb0 1 (.int .i64 t1))∧(w'.heap[gb0]?=some (.cells #[.int .i64 t0,.int .i64 t1] 36 (0,0)))∧(w'.heap[gb1]?=some (.cells #[.int .i64 t2,.int .i64 t3] 36 (0,0)))∧(w'.heap[gb2]?=some (.cells #[.int .i64 0,.int .i64 0] 36 (0,0)))∧(w'.heap[gb3]?=some (.cells #[.bool t10,.int .u64 t11,.int .u64 t12] 107 (0,0)))∧(w'.heap[s_]?=some (.cells #[.bool false,.int .u64 0,.int .u64 0] 107 (0,0)))∧(w.heap.size≤s_)∧(w.heap.size≤s_)∧(gb0≠s_)∧(s_≠gb0)∧(gb1≠s_)∧(s_≠gb1)∧(gb2≠s_)∧(s_≠gb2)∧(gb3≠s_)∧(s_≠gb3)∧(Below w.heap.size w w')) ?_ ?_
 rotate_left;{
 intro hJ7
 refine join_ (σ:=Unit) 5 (m_ 11 63) (fun s_=>[(24,.agg #[.bool t13,.int .u64 t14,.int .u64 t15])]) (fun s_ w'=>(c_ w' gb1 0 (.int .i64 t2)∧c_ w' gb1 1 (.int .i64 t3)∧c_ w' gb0 0 (.int .i64 t0)∧c_ w' gb0 1 (.int .i64 t1))∧(w'.heap[gb0]?=some (.cells #[.int .i64 t0,.int .i64 t1] 36 (0,0)))∧(w'.heap[gb1]?=some (.cells #[.int .i64 t2,.int .i64 t3] 36 (0,0)))∧(w'.heap[gb2]?=some (.cells #[.int .i64 0,.int .i64 0] 36 (0,0)))∧(w'.heap[gb3]?=some (.cells #[.bool t10,.int .u64 t11,.int .u64 t12] 107 (0,0)))∧(Below w.heap.size w w')) ?_ ?_
 rotate_left;{
 intro hJ3
 refine join_ (σ:=Nat) 5 (m_ 11 567) (fun s_=>[(9,.pointer (some ⟨s_,0,none⟩))]) (fun s_ w'=>(c_ w' gb1 0 (.int .i64 t2)∧c_ w' gb1 1 (.int .i64 t3)∧c_ w' gb0 0 (.int .i64 t0)∧c_ w' gb0 1 (.int .i64 t1))∧(w'.heap[gb0]?=some (.cells #[.int .i64 t0,.int .i64 t1] 36 (0,0)))∧(w'.heap[gb1]?=some (.cells #[.int .i64 t2,.int .i64 t3] 36 (0,0)))∧(w'.heap[gb2]?=some (.cells #[.int .i64 0,.int .i64 0] 36 (0,0)))∧(w'.heap[gb3]?=some (.cells #[.bool t10,.int .u64 t11,.int .u64 t12] 107 (0,0)))∧(w'.heap[s_]?=some (.cells #[.bool false,.int .u64 0,.int .u64 0] 107 (0,0)))∧(w.heap.size≤s_)∧(w.heap.size≤s_)∧(gb0≠s_)∧(s_≠gb0)∧(gb1≠s_)∧(s_≠gb1)∧(gb2≠s_)∧(s_≠gb2)∧(gb3≠s_)∧(s_≠gb3)∧(Below w.heap.size w w')) ?_ ?_
 rotate_left;{
 intro hJ9
 refine two_ (i:=3) (j:=9) (Ni:=some 24) (Nj:=some 9) (m_ 11 63) (m_ 11 567) rfl rfl rfl rfl (two_of HT_.out (by kernel_rfl)) (by decide) (by decide) (fun K hK=>?_) (fun K hK=>?_);{
 skip
 refine gs_ rfl Tryd.func60 (frac_sized.calls _ _ _ _ _ A8.out) ag ?_
 intro w39 hb
 replace BK0:=bb BK0 hb
 replace BK1:=bb BK1 hb
 replace BK2:=bb BK2 hb
 replace BK3:=bb BK3 hb
 replace HB:=bs HB hb
 (try clear hb)
 refine hK.out _ _ ⟨ct BK1 0,ct BK1 1,ct BK0 0,ct BK0 1⟩ (fun hHeld=>?_)
 clear hK K
 refine nr_ (some 24) ?_
 exact norm_ (by first|(simp only [putAll,Act.put,si,s0,s1];done)|(simp only [putAll,Act.put,si,s0,s1];rfl)) (hJ3 () _ ⟨hHeld,(bx BK0),(bx BK1),(bx BK2),(bx BK3),(bf HB)⟩)};{
 skip
 refine box_step ?hg (N:=9) ?hd (cs:=#[.bool false,.int .u64 0,.int .u64 0]) (t:=107) ?hr ?_;(case hd=>rfl);(case hg=>rfl);(case hr=>first|(go_simp;done)|(go_simp;rfl))
 intro gb4 hg w39 hbox hb
 have BK4:=am (hbox)
 have GW1:=bz HB hg
 have GE4:=bz HB hg
 have NB12:=bl BK0 hg
 have NB13:=bg BK0 hg
 have NB14:=bl BK1 hg
 have NB15:=bg BK1 hg
 have NB16:=bl BK2 hg
 have NB17:=bg BK2 hg
 have NB18:=bl BK3 hg
 have NB19:=bg BK3 hg
 replace BK0:=bb BK0 hb
 replace BK1:=bb BK1 hb
 replace BK2:=bb BK2 hb
 replace BK3:=bb BK3 hb
 replace HB:=bs HB hb
 clear hb hg
 refine hK.out _ _ ⟨ct BK1 0,ct BK1 1,ct BK0 0,ct BK0 1⟩ (fun hHeld=>?_)
 clear hK K
 refine nr_ (some 9) ?_
 exact norm_ (by first|(simp only [putAll,Act.put,si,s0,s1];done)|(simp only [putAll,Act.put,si,s0,s1];rfl)) (hJ9 (gb4) _ ⟨hHeld,(bx BK0),(bx BK1),(bx BK2),(bx BK3),(bx BK4),GW1.out,GE4.out,NB12.out,NB13.out,NB14.out,NB15.out,NB16.out,NB17.out,NB18.out,NB19.out,(bf HB)⟩)}};{
 skip
 rintro gb4 w40 ⟨hS_,h0,h1,h2,h3,h4,h5,h6,h7,h8,h9,h10,h11,h12,h13,h14,h15⟩
 have n0:Aside0 (w40.heap[gb0]?=some (.cells #[.int .i64 t0,.int .i64 t1] 36 (0,0))):=⟨h0⟩
 have n1:Aside0 (w40.heap[gb1]?=some (.cells #[.int .i64 t2,.int .i64 t3] 36 (0,0))):=⟨h1⟩
 have n2:Aside0 (w40.heap[gb2]?=some (.cells #[.int .i64 0,.int .i64 0] 36 (0,0))):=⟨h2⟩
 have n3:Aside0 (w40.heap[gb3]?=some (.cells #[.bool t10,.int .u64 t11,.int .u64 t12] 107 (0,0))):=⟨h3⟩
 have n4:Aside0 (w40.heap[gb4]?=some (.cells #[.bool false,.int .u64 0,.int .u64 0] 107 (0,0))):=⟨h4⟩
 have n5:Aside0 (w.heap.size≤gb4):=⟨h5⟩
 have n6:Aside0 (w.heap.size≤gb4):=⟨h6⟩
 have n7:Aside0 (gb0≠gb4):=⟨h7⟩
 have n8:Aside0 (gb4≠gb0):=⟨h8⟩
 have n9:Aside0 (gb1≠gb4):=⟨h9⟩
 have n10:Aside0 (gb4≠gb1):=⟨h10⟩
 have n11:Aside0 (gb2≠gb4):=⟨h11⟩
 have n12:Aside0 (gb4≠gb2):=⟨h12⟩
 have n13:Aside0 (gb3≠gb4):=⟨h13⟩
 have n14:Aside0 (gb4≠gb3):=⟨h14⟩
 have n15:Aside0 (Below w.heap.size w w40):=⟨h15⟩
 clear BK0
 clear BK1
 clear BK2
 clear BK3
 clear HB
 clear h0 h1 h2 h3 h4 h5 h6 h7 h8 h9 h10 h11 h12 h13 h14 h15
 have BK0:=n0
 have BK1:=n1
 have BK2:=n2
 have BK3:=n3
 have BK4:=n4
 have GW1:=n5
 have GE4:=n6
 have NB12:=n7
 have NB13:=n8
 have NB14:=n9
 have NB15:=n10
 have NB16:=n11
 have NB17:=n12
 have NB18:=n13
 have NB19:=n14
 have HB:=n15
 clear n0 n1 n2 n3 n4 n5 n6 n7 n8 n9 n10 n11 n12 n13 n14 n15
 have hHeld:c_ w40 gb1 0 (.int .i64 t2)∧c_ w40 gb1 1 (.int .i64 t3)∧c_ w40 gb0 0 (.int .i64 t0)∧c_ w40 gb0 1 (.int .i64 t1):=hS_
 refine norm_ (a':=?_) ?_ ?_
 rotate_left;{
 simp only [putAll,Act.put,si,s0,s1]
 rfl}
 refine o1_ 3 (some 24) (m_ 11 575) rfl rfl (oo HT_) (fun K hK=>?_)
 refine gs_ rfl Tryd.func60 (frac_sized.calls _ _ _ _ _ A8.out) ag ?_
 intro w41 hb
 replace BK0:=bb BK0 hb
 replace BK1:=bb BK1 hb
 replace BK2:=bb BK2 hb
 replace BK3:=bb BK3 hb
 replace BK4:=bb BK4 hb
 replace HB:=bs HB hb
 (try clear hb)
 refine hK.out _ _ ⟨ct BK1 0,ct BK1 1,ct BK0 0,ct BK0 1⟩ (fun hHeld=>?_)
 clear hK K
 refine nr_ (some 24) ?_
 exact norm_ (by first|(simp only [putAll,Act.put,si,s0,s1];done)|(simp only [putAll,Act.put,si,s0,s1];rfl)) (hJ7 (gb4) _ ⟨hHeld,(bx BK0),(bx BK1),(bx BK2),(bx BK3),(bx BK4),GW1.out,GE4.out,NB12.out,NB13.out,NB14.out,NB15.out,NB16.out,NB17.out,NB18.out,NB19.out,(bf HB)⟩)}};{
 skip
 rintro _ w40 ⟨hS_,h0,h1,h2,h3,h4⟩
 have n0:Aside0 (w40.heap[gb0]?=some (.cells #[.int .i64 t0,.int .i64 t1] 36 (0,0))):=⟨h0⟩
 have n1:Aside0 (w40.heap[gb1]?=some (.cells #[.int .i64 t2,.int .i64 t3] 36 (0,0))):=⟨h1⟩
 have n2:Aside0 (w40.heap[gb2]?=some (.cells #[.int .i64 0,.int .i64 0] 36 (0,0))):=⟨h2⟩
 have n3:Aside0 (w40.heap[gb3]?=some (.cells #[.bool t10,.int .u64 t11,.int .u64 t12] 107 (0,0))):=⟨h3⟩
 have n4:Aside0 (Below w.heap.size w w40):=⟨h4⟩
 clear BK0
 clear BK1
 clear BK2
 clear BK3
 clear HB
 clear h0 h1 h2 h3 h4
 have BK0:=n0
 have BK1:=n1
 have BK2:=n2
 have BK3:=n3
 have HB:=n4
 clear n0 n1 n2 n3 n4
 have hHeld:c_ w40 gb1 0 (.int .i64 t2)∧c_ w40 gb1 1 (.int .i64 t3)∧c_ w40 gb0 0 (.int .i64 t0)∧c_ w40 gb0 1 (.int .i64 t1):=hS_
 refine norm_ (a':=?_) ?_ ?_
 rotate_left;{
 simp only [putAll,Act.put,si,s0,s1]
 rfl}
 refine two_ (i:=6) (j:=9) (Ni:=some 27) (Nj:=some 9) (m_ 11 127) (m_ 11 575) rfl rfl rfl rfl (two_of HT_.out (by kernel_rfl)) (by decide) (by decide) (fun K hK=>?_) (fun K hK=>?_);{
 skip
 refine gs_ rfl Tryd.func60 (frac_sized.calls _ _ _ _ _ A9.out) ag ?_
 intro w41 hb
 replace BK0:=bb BK0 hb
 replace BK1:=bb BK1 hb
 replace BK2:=bb BK2 hb
 replace BK3:=bb BK3 hb
 replace HB:=bs HB hb
 (try clear hb)
 refine hK.out _ _ ⟨ct BK1 0,ct BK1 1,ct BK0 0,ct BK0 1⟩ (fun hHeld=>?_)
 clear hK K
 refine nr_ (some 27) ?_
 exact norm_ (by first|(simp only [putAll,Act.put,si,s0,s1];done)|(simp only [putAll,Act.put,si,s0,s1];rfl)) (hJ6 () _ ⟨hHeld,(bx BK0),(bx BK1),(bx BK2),(bx BK3),(bf HB)⟩)};{
 skip
 refine box_step ?hg (N:=9) ?hd (cs:=#[.bool false,.int .u64 0,.int .u64 0]) (t:=107) ?hr ?_;(case hd=>rfl);(case hg=>rfl);(case hr=>first|(go_simp;done)|(go_simp;rfl))
 intro gb4 hg w41 hbox hb
 have BK4:=am (hbox)
 have GW1:=bz HB hg
 have GE4:=bz HB hg
 have NB12:=bl BK0 hg
 have NB13:=bg BK0 hg
 have NB14:=bl BK1 hg
 have NB15:=bg BK1 hg
 have NB16:=bl BK2 hg
 have NB17:=bg BK2 hg
 have NB18:=bl BK3 hg
 have NB19:=bg BK3 hg
 replace BK0:=bb BK0 hb
 replace BK1:=bb BK1 hb
 replace BK2:=bb BK2 hb
 replace BK3:=bb BK3 hb
 replace HB:=bs HB hb
 clear hb hg
 refine hK.out _ _ ⟨ct BK1 0,ct BK1 1,ct BK0 0,ct BK0 1⟩ (fun hHeld=>?_)
 clear hK K
 refine nr_ (some 9) ?_
 exact norm_ (by first|(simp only [putAll,Act.put,si,s0,s1];done)|(simp only [putAll,Act.put,si,s0,s1];rfl)) (hJ7 (gb4) _ ⟨hHeld,(bx BK0),(bx BK1),(bx BK2),(bx BK3),(bx BK4),GW1.out,GE4.out,NB12.out,NB13.out,NB14.out,NB15.out,NB16.out,NB17.out,NB18.out,NB19.out,(bf HB)⟩)}}};{
 skip
 rintro gb4 w41 ⟨hS_,h0,h1,h2,h3,h4,h5,h6,h7,h8,h9,h10,h11,h12,h13,h14,h15⟩
 have n0:Aside0 (w41.heap[gb0]?=some (.cells #[.int .i64 t0,.int .i64 t1] 36 (0,0))):=⟨h0⟩
 have n1:Aside0 (w41.heap[gb1]?=some (.cells #[.int .i64 t2,.int .i64 t3] 36 (0,0))):=⟨h1⟩
 have n2:Aside0 (w41.heap[gb2]?=some (.cells #[.int .i64 0,.int .i64 0] 36 (0,0))):=⟨h2⟩
 have n3:Aside0 (w41.heap[gb3]?=some (.cells #[.bool t10,.int .u64 t11,.int .u64 t12] 107 (0,0))):=⟨h3⟩
 have n4:Aside0 (w41.heap[gb4]?=some (.cells #[.bool false,.int .u64 0,.int .u64 0] 107 (0,0))):=⟨h4⟩
 have n5:Aside0 (w.heap.size≤gb4):=⟨h5⟩
 have n6:Aside0 (w.heap.size≤gb4):=⟨h6⟩
 have n7:Aside0 (gb0≠gb4):=⟨h7⟩
 have n8:Aside0 (gb4≠gb0):=⟨h8⟩
 have n9:Aside0 (gb1≠gb4):=⟨h9⟩
 have n10:Aside0 (gb4≠gb1):=⟨h10⟩
 have n11:Aside0 (gb2≠gb4):=⟨h11⟩
 have n12:Aside0 (gb4≠gb2):=⟨h12⟩
 have n13:Aside0 (gb3≠gb4):=⟨h13⟩
 have n14:Aside0 (gb4≠gb3):=⟨h14⟩
 have n15:Aside0 (Below w.heap.size w w41):=⟨h15⟩
 clear BK0
 clear BK1
 clear BK2
 clear BK3
 clear HB
 clear h0 h1 h2 h3 h4 h5 h6 h7 h8 h9 h10 h11 h12 h13 h14 h15
 have BK0:=n0
 have BK1:=n1
 have BK2:=n2
 have BK3:=n3
 have BK4:=n4
 have GW1:=n5
 have GE4:=n6
 have NB12:=n7
 have NB13:=n8
 have NB14:=n9
 have NB15:=n10
 have NB16:=n11
 have NB17:=n12
 have NB18:=n13
 have NB19:=n14
 have HB:=n15
 clear n0 n1 n2 n3 n4 n5 n6 n7 n8 n9 n10 n11 n12 n13 n14 n15
 have hHeld:c_ w41 gb1 0 (.int .i64 t2)∧c_ w41 gb1 1 (.int .i64 t3)∧c_ w41 gb0 0 (.int .i64 t0)∧c_ w41 gb0 1 (.int .i64 t1):=hS_
 refine norm_ (a':=?_) ?_ ?_
 rotate_left;{
 simp only [putAll,Act.put,si,s0,s1]
 rfl}
 refine o1_ 6 (some 27) (m_ 11 639) rfl rfl (oo HT_) (fun K hK=>?_)
 refine gs_ rfl Tryd.func60 (frac_sized.calls _ _ _ _ _ A9.out) ag ?_
 intro w42 hb
 replace BK0:=bb BK0 hb
 replace BK1:=bb BK1 hb
 replace BK2:=bb BK2 hb
 replace BK3:=bb BK3 hb
 replace BK4:=bb BK4 hb
 replace HB:=bs HB hb
 (try clear hb)
 refine hK.out _ _ ⟨ct BK1 0,ct BK1 1,ct BK0 0,ct BK0 1⟩ (fun hHeld=>?_)
 clear hK K
 refine nr_ (some 27) ?_
 exact norm_ (by first|(simp only [putAll,Act.put,si,s0,s1];done)|(simp only [putAll,Act.put,si,s0,s1];rfl)) (hJ5 (gb4) _ ⟨hHeld,(bx BK0),(bx BK1),(bx BK2),(bx BK3),(bx BK4),GW1.out,GE4.out,NB12.out,NB13.out,NB14.out,NB15.out,NB16.out,NB17.out,NB18.out,NB19.out,(bf HB)⟩)}};{
 skip
 rintro _ w41 ⟨hS_,h0,h1,h2,h3,h4⟩
 have n0:Aside0 (w41.heap[gb0]?=some (.cells #[.int .i64 t0,.int .i64 t1] 36 (0,0))):=⟨h0⟩
 have n1:Aside0 (w41.heap[gb1]?=some (.cells #[.int .i64 t2,.int .i64 t3] 36 (0,0))):=⟨h1⟩
 have n2:Aside0 (w41.heap[gb2]?=some (.cells #[.int .i64 0,.int .i64 0] 36 (0,0))):=⟨h2⟩
 have n3:Aside0 (w41.heap[gb3]?=some (.cells #[.bool t10,.int .u64 t11,.int .u64 t12] 107 (0,0))):=⟨h3⟩
 have n4:Aside0 (Below w.heap.size w w41):=⟨h4⟩
 clear BK0
 clear BK1
 clear BK2
 clear BK3
 clear HB
 clear h0 h1 h2 h3 h4
 have BK0:=n0
 have BK1:=n1
 have BK2:=n2
 have BK3:=n3
 have HB:=n4
 clear n0 n1 n2 n3 n4
 have hHeld:c_ w41 gb1 0 (.int .i64 t2)∧c_ w41 gb1 1 (.int .i64 t3)∧c_ w41 gb0 0 (.int .i64 t0)∧c_ w41 gb0 1 (.int .i64 t1):=hS_
 refine norm_ (a':=?_) ?_ ?_
 rotate_left;{
 simp only [putAll,Act.put,si,s0,s1]
 rfl}
 refine two_ (i:=7) (j:=9) (Ni:=some 28) (Nj:=some 9) (m_ 11 255) (m_ 11 639) rfl rfl rfl rfl (two_of HT_.out (by kernel_rfl)) (by decide) (by decide) (fun K hK=>?_) (fun K hK=>?_);{
 skip
 refine gs_ rfl Tryd.func61 (frac_signed_times.calls _ _ _ _ _ _ _ _ _ _ A0.out) ag ?_
 intro w42 hb
 replace BK0:=bb BK0 hb
 replace BK1:=bb BK1 hb
 replace BK2:=bb BK2 hb
 replace BK3:=bb BK3 hb
 replace HB:=bs HB hb
 (try clear hb)
 refine hK.out _ _ ⟨ct BK1 0,ct BK1 1,ct BK0 0,ct BK0 1⟩ (fun hHeld=>?_)
 clear hK K
 refine nr_ (some 28) ?_
 exact norm_ (by first|(simp only [putAll,Act.put,si,s0,s1];done)|(simp only [putAll,Act.put,si,s0,s1];rfl)) (hJ4 () _ ⟨hHeld,(bx BK0),(bx BK1),(bx BK2),(bx BK3),(bf HB)⟩)};{
 skip
 refine box_step ?hg (N:=9) ?hd (cs:=#[.bool false,.int .u64 0,.int .u64 0]) (t:=107) ?hr ?_;(case hd=>rfl);(case hg=>rfl);(case hr=>first|(go_simp;done)|(go_simp;rfl))
 intro gb4 hg w42 hbox hb
 have BK4:=am (hbox)
 have GW1:=bz HB hg
 have GE4:=bz HB hg
 have NB12:=bl BK0 hg
 have NB13:=bg BK0 hg
 have NB14:=bl BK1 hg
 have NB15:=bg BK1 hg
 have NB16:=bl BK2 hg
 have NB17:=bg BK2 hg
 have NB18:=bl BK3 hg
 have NB19:=bg BK3 hg
 replace BK0:=bb BK0 hb
 replace BK1:=bb BK1 hb
 replace BK2:=bb BK2 hb
 replace BK3:=bb BK3 hb
 replace HB:=bs HB hb
 clear hb hg
 refine hK.out _ _ ⟨ct BK1 0,ct BK1 1,ct BK0 0,ct BK0 1⟩ (fun hHeld=>?_)
 clear hK K
 refine nr_ (some 9) ?_
 exact norm_ (by first|(simp only [putAll,Act.put,si,s0,s1];done)|(simp only [putAll,Act.put,si,s0,s1];rfl)) (hJ5 (gb4) _ ⟨hHeld,(bx BK0),(bx BK1),(bx BK2),(bx BK3),(bx BK4),GW1.out,GE4.out,NB12.out,NB13.out,NB14.out,NB15.out,NB16.out,NB17.out,NB18.out,NB19.out,(bf HB)⟩)}}};{
 skip
 rintro gb4 w42 ⟨hS_,h0,h1,h2,h3,h4,h5,h6,h7,h8,h9,h10,h11,h12,h13,h14,h15⟩
 have n0:Aside0 (w42.heap[gb0]?=some (.cells #[.int .i64 t0,.int .i64 t1] 36 (0,0))):=⟨h0⟩
 have n1:Aside0 (w42.heap[gb1]?=some (.cells #[.int .i64 t2,.int .i64 t3] 36 (0,0))):=⟨h1⟩
 have n2:Aside0 (w42.heap[gb2]?=some (.cells #[.int .i64 0,.int .i64 0] 36 (0,0))):=⟨h2⟩
 have n3:Aside0 (w42.heap[gb3]?=some (.cells #[.bool t10,.int .u64 t11,.int .u64 t12] 107 (0,0))):=⟨h3⟩
 have n4:Aside0 (w42.heap[gb4]?=some (.cells #[.bool false,.int .u64 0,.int .u64 0] 107 (0,0))):=⟨h4⟩
 have n5:Aside0 (w.heap.size≤gb4):=⟨h5⟩
 have n6:Aside0 (w.heap.size≤gb4):=⟨h6⟩
 have n7:Aside0 (gb0≠gb4):=⟨h7⟩
 have n8:Aside0 (gb4≠gb0):=⟨h8⟩
 have n9:Aside0 (gb1≠gb4):=⟨h9⟩
 have n10:Aside0 (gb4≠gb1):=⟨h10⟩
 have n11:Aside0 (gb2≠gb4):=⟨h11⟩
 have n12:Aside0 (gb4≠gb2):=⟨h12⟩
 have n13:Aside0 (gb3≠gb4):=⟨h13⟩
 have n14:Aside0 (gb4≠gb3):=⟨h14⟩
 have n15:Aside0 (Below w.heap.size w w42):=⟨h15⟩
 clear BK0
 clear BK1
 clear BK2
 clear BK3
 clear HB
 clear h0 h1 h2 h3 h4 h5 h6 h7 h8 h9 h10 h11 h12 h13 h14 h15
 have BK0:=n0
 have BK1:=n1
 have BK2:=n2
 have BK3:=n3
 have BK4:=n4
 have GW1:=n5
 have GE4:=n6
 have NB12:=n7
 have NB13:=n8
 have NB14:=n9
 have NB15:=n10
 have NB16:=n11
 have NB17:=n12
 have NB18:=n13
 have NB19:=n14
 have HB:=n15
 clear n0 n1 n2 n3 n4 n5 n6 n7 n8 n9 n10 n11 n12 n13 n14 n15
 have hHeld:c_ w42 gb1 0 (.int .i64 t2)∧c_ w42 gb1 1 (.int .i64 t3)∧c_ w42 gb0 0 (.int .i64 t0)∧c_ w42 gb0 1 (.int .i64 t1):=hS_
 refine norm_ (a':=?_) ?_ ?_
 rotate_left;{
 simp only [putAll,Act.put,si,s0,s1]
 rfl}
 refine o1_ 7 (some 28) (m_ 11 767) rfl rfl (oo HT_) (fun K hK=>?_)
 refine gs_ rfl Tryd.func61 (frac_signed_times.calls _ _ _ _ _ _ _ _ _ _ A0.out) ag ?_
 intro w43 hb
 replace BK0:=bb BK0 hb
 replace BK1:=bb BK1 hb
 replace BK2:=bb BK2 hb
 replace BK3:=bb BK3 hb
 replace BK4:=bb BK4 hb
 replace HB:=bs HB hb
 (try clear hb)
 refine hK.out _ _ ⟨ct BK1 0,ct BK1 1,ct BK0 0,ct BK0 1⟩ (fun hHeld=>?_)
 clear hK K
 refine nr_ (some 28) ?_
 exact norm_ (by first|(simp only [putAll,Act.put,si,s0,s1];done)|(simp only [putAll,Act.put,si,s0,s1];rfl)) (hJ2 (gb4) _ ⟨hHeld,(bx BK0),(bx BK1),(bx BK2),(bx BK3),(bx BK4),GW1.out,GE4.out,NB12.out,NB13.out,NB14.out,NB15.out,NB16.out,NB17.out,NB18.out,NB19.out,(bf HB)⟩)}};{
 skip
 rintro _ w42 ⟨hS_,h0,h1,h2,h3,h4⟩
 have n0:Aside0 (w42.heap[gb0]?=some (.cells #[.int .i64 t0,.int .i64 t1] 36 (0,0))):=⟨h0⟩
 have n1:Aside0 (w42.heap[gb1]?=some (.cells #[.int .i64 t2,.int .i64 t3] 36 (0,0))):=⟨h1⟩
 have n2:Aside0 (w42.heap[gb2]?=some (.cells #[.int .i64 0,.int .i64 0] 36 (0,0))):=⟨h2⟩
 have n3:Aside0 (w42.heap[gb3]?=some (.cells #[.bool t10,.int .u64 t11,.int .u64 t12] 107 (0,0))):=⟨h3⟩
 have n4:Aside0 (Below w.heap.size w w42):=⟨h4⟩
 clear BK0
 clear BK1
 clear BK2
 clear BK3
 clear HB
 clear h0 h1 h2 h3 h4
 have BK0:=n0
 have BK1:=n1
 have BK2:=n2
 have BK3:=n3
 have HB:=n4
 clear n0 n1 n2 n3 n4
 have hHeld:c_ w42 gb1 0 (.int .i64 t2)∧c_ w42 gb1 1 (.int .i64 t3)∧c_ w42 gb0 0 (.int .i64 t0)∧c_ w42 gb0 1 (.int .i64 t1):=hS_
 refine norm_ (a':=?_) ?_ ?_
 rotate_left;{
 simp only [putAll,Act.put,si,s0,s1]
 rfl}
 refine two_ (i:=8) (j:=9) (Ni:=some 29) (Nj:=some 9) (m_ 11 511) (m_ 11 767) rfl rfl rfl rfl (two_of HT_.out (by kernel_rfl)) (by decide) (by decide) (fun K hK=>?_) (fun K hK=>?_);{
 skip
 refine goesU_ Tryd.func53 (by kernel_rfl) rfl #[.agg #[.bool t19,.int .u64 t20,.int .u64 t21]] (by rfl) rfl rfl rfl ag ?_
 with_reducible refine (frac_Add_1.calls _ _ _ _ _ _ _ A1.out).mono ?_
 rintro e w43 ⟨rfl,hb⟩
 refine ⟨_,rfl,?_⟩
 replace BK0:=bb BK0 hb
 replace BK1:=bb BK1 hb
 replace BK2:=bb BK2 hb
 replace BK3:=bb BK3 hb
 replace HB:=bs HB hb
 (try clear hb)
 refine hK.out _ _ ⟨ct BK1 0,ct BK1 1,ct BK0 0,ct BK0 1⟩ (fun hHeld=>?_)
 clear hK K
 refine nr_ (some 29) ?_
 exact norm_ (by first|(simp only [putAll,Act.put,si,s0,s1];done)|(simp only [putAll,Act.put,si,s0,s1];rfl)) (hJ1 () _ ⟨hHeld,(bx BK0),(bx BK1),(bx BK2),(bx BK3),(bf HB)⟩)};{
 skip
 refine box_step ?hg (N:=9) ?hd (cs:=#[.bool false,.int .u64 0,.int .u64 0]) (t:=107) ?hr ?_;(case hd=>rfl);(case hg=>rfl);(case hr=>first|(go_simp;done)|(go_simp;rfl))
 intro gb4 hg w43 hbox hb
 have BK4:=am (hbox)
 have GW1:=bz HB hg
 have GE4:=bz HB hg
 have NB12:=bl BK0 hg
 have NB13:=bg BK0 hg
 have NB14:=bl BK1 hg
 have NB15:=bg BK1 hg
 have NB16:=bl BK2 hg
 have NB17:=bg BK2 hg
 have NB18:=bl BK3 hg
 have NB19:=bg BK3 hg
 replace BK0:=bb BK0 hb
 replace BK1:=bb BK1 hb
 replace BK2:=bb BK2 hb
 replace BK3:=bb BK3 hb
 replace HB:=bs HB hb
 clear hb hg
 refine hK.out _ _ ⟨ct BK1 0,ct BK1 1,ct BK0 0,ct BK0 1⟩ (fun hHeld=>?_)
 clear hK K
 refine nr_ (some 9) ?_
 exact norm_ (by first|(simp only [putAll,Act.put,si,s0,s1];done)|(simp only [putAll,Act.put,si,s0,s1];rfl)) (hJ2 (gb4) _ ⟨hHeld,(bx BK0),(bx BK1),(bx BK2),(bx BK3),(bx BK4),GW1.out,GE4.out,NB12.out,NB13.out,NB14.out,NB15.out,NB16.out,NB17.out,NB18.out,NB19.out,(bf HB)⟩)}}};{
 skip
 rintro gb4 w43 ⟨hS_,h0,h1,h2,h3,h4,h5,h6,h7,h8,h9,h10,h11,h12,h13,h14,h15⟩
 have n0:Aside0 (w43.heap[gb0]?=some (.cells #[.int .i64 t0,.int .i64 t1] 36 (0,0))):=⟨h0⟩
 have n1:Aside0 (w43.heap[gb1]?=some (.cells #[.int .i64 t2,.int .i64 t3] 36 (0,0))):=⟨h1⟩
 have n2:Aside0 (w43.heap[gb2]?=some (.cells #[.int .i64 0,.int .i64 0] 36 (0,0))):=⟨h2⟩
 have n3:Aside0 (w43.heap[gb3]?=some (.cells #[.bool t10,.int .u64 t11,.int .u64 t12] 107 (0,0))):=⟨h3⟩
 have n4:Aside0 (w43.heap[gb4]?=some (.cells #[.bool false,.int .u64 0,.int .u64 0] 107 (0,0))):=⟨h4⟩
 have n5:Aside0 (w.heap.size≤gb4):=⟨h5⟩
 have n6:Aside0 (w.heap.size≤gb4):=⟨h6⟩
 have n7:Aside0 (gb0≠gb4):=⟨h7⟩
 have n8:Aside0 (gb4≠gb0):=⟨h8⟩
 have n9:Aside0 (gb1≠gb4):=⟨h9⟩
 have n10:Aside0 (gb4≠gb1):=⟨h10⟩
 have n11:Aside0 (gb2≠gb4):=⟨h11⟩
 have n12:Aside0 (gb4≠gb2):=⟨h12⟩
 have n13:Aside0 (gb3≠gb4):=⟨h13⟩
 have n14:Aside0 (gb4≠gb3):=⟨h14⟩
 have n15:Aside0 (Below w.heap.size w w43):=⟨h15⟩
 clear BK0
 clear BK1
 clear BK2
 clear BK3
 clear HB
 clear h0 h1 h2 h3 h4 h5 h6 h7 h8 h9 h10 h11 h12 h13 h14 h15
 have BK0:=n0
 have BK1:=n1
 have BK2:=n2
 have BK3:=n3
 have BK4:=n4
 have GW1:=n5
 have GE4:=n6
 have NB12:=n7
 have NB13:=n8
 have NB14:=n9
 have NB15:=n10
 have NB16:=n11
 have NB17:=n12
 have NB18:=n13
 have NB19:=n14
 have HB:=n15
 clear n0 n1 n2 n3 n4 n5 n6 n7 n8 n9 n10 n11 n12 n13 n14 n15
 have hHeld:c_ w43 gb1 0 (.int .i64 t2)∧c_ w43 gb1 1 (.int .i64 t3)∧c_ w43 gb0 0 (.int .i64 t0)∧c_ w43 gb0 1 (.int .i64 t1):=hS_
 refine norm_ (a':=?_) ?_ ?_
 rotate_left;{
 simp only [putAll,Act.put,si,s0,s1]
 rfl}
 refine o1_ 8 (some 29) (m_ 11 1023) rfl rfl (oo HT_) (fun K hK=>?_)
 refine goesU_ Tryd.func53 (by kernel_rfl) rfl #[.agg #[.bool t19,.int .u64 t20,.int .u64 t21]] (by rfl) rfl rfl rfl ag ?_
 with_reducible refine (frac_Add_1.calls _ _ _ _ _ _ _ A1.out).mono ?_
 rintro e w44 ⟨rfl,hb⟩
 refine ⟨_,rfl,?_⟩
 replace BK0:=bb BK0 hb
 replace BK1:=bb BK1 hb
 replace BK2:=bb BK2 hb
 replace BK3:=bb BK3 hb
 replace BK4:=bb BK4 hb
 replace HB:=bs HB hb
 (try clear hb)
 refine hK.out _ _ ⟨ct BK1 0,ct BK1 1,ct BK0 0,ct BK0 1⟩ (fun hHeld=>?_)
 clear hK K
 refine nr_ (some 29) ?_
 exact norm_ (by first|(simp only [putAll,Act.put,si,s0,s1];done)|(simp only [putAll,Act.put,si,s0,s1];rfl)) (hJ0 (gb4) _ ⟨hHeld,(bx BK0),(bx BK1),(bx BK2),(bx BK3),(bx BK4),GW1.out,GE4.out,NB12.out,NB13.out,NB14.out,NB15.out,NB16.out,NB17.out,NB18.out,NB19.out,(bf HB)⟩)}};{
 skip
 rintro _ w43 ⟨hS_,h0,h1,h2,h3,h4⟩
 have n0:Aside0 (w43.heap[gb0]?=some (.cells #[.int .i64 t0,.int .i64 t1] 36 (0,0))):=⟨h0⟩
 have n1:Aside0 (w43.heap[gb1]?=some (.cells #[.int .i64 t2,.int .i64 t3] 36 (0,0))):=⟨h1⟩
 have n2:Aside0 (w43.heap[gb2]?=some (.cells #[.int .i64 0,.int .i64 0] 36 (0,0))):=⟨h2⟩
 have n3:Aside0 (w43.heap[gb3]?=some (.cells #[.bool t10,.int .u64 t11,.int .u64 t12] 107 (0,0))):=⟨h3⟩
 have n4:Aside0 (Below w.heap.size w w43):=⟨h4⟩
 clear BK0
 clear BK1
 clear BK2
 clear BK3
 clear HB
 clear h0 h1 h2 h3 h4
 have BK0:=n0
 have BK1:=n1
 have BK2:=n2
 have BK3:=n3
 have HB:=n4
 clear n0 n1 n2 n3 n4
 have hHeld:c_ w43 gb1 0 (.int .i64 t2)∧c_ w43 gb1 1 (.int .i64 t3)∧c_ w43 gb0 0 (.int .i64 t0)∧c_ w43 gb0 1 (.int .i64 t1):=hS_
 refine norm_ (a':=?_) ?_ ?_
 rotate_left;{
 simp only [putAll,Act.put,si,s0,s1]
 rfl}
 refine o1_ 9 (some 9) (m_ 11 1023) rfl rfl (oo HT_) (fun K hK=>?_)
 refine box_step ?hg (N:=9) ?hd (cs:=#[.bool false,.int .u64 0,.int .u64 0]) (t:=107) ?hr ?_;(case hd=>rfl);(case hg=>rfl);(case hr=>first|(go_simp;done)|(go_simp;rfl))
 intro gb4 hg w44 hbox hb
 have BK4:=am (hbox)
 have GW1:=bz HB hg
 have GE4:=bz HB hg
 have NB12:=bl BK0 hg
 have NB13:=bg BK0 hg
 have NB14:=bl BK1 hg
 have NB15:=bg BK1 hg
 have NB16:=bl BK2 hg
 have NB17:=bg BK2 hg
 have NB18:=bl BK3 hg
 have NB19:=bg BK3 hg
 replace BK0:=bb BK0 hb
 replace BK1:=bb BK1 hb
 replace BK2:=bb BK2 hb
 replace BK3:=bb BK3 hb
 replace HB:=bs HB hb
 clear hb hg
 refine hK.out _ _ ⟨ct BK1 0,ct BK1 1,ct BK0 0,ct BK0 1⟩ (fun hHeld=>?_)
 clear hK K
 refine nr_ (some 9) ?_
 exact norm_ (by first|(simp only [putAll,Act.put,si,s0,s1];done)|(simp only [putAll,Act.put,si,s0,s1];rfl)) (hJ0 (gb4) _ ⟨hHeld,(bx BK0),(bx BK1),(bx BK2),(bx BK3),(bx BK4),GW1.out,GE4.out,NB12.out,NB13.out,NB14.out,NB15.out,NB16.out,NB17.out,NB18.out,NB19.out,(bf HB)⟩)}}
 rintro gb4 w44 ⟨hS_,h0,h1,h2,h3,h4,h5,h6,h7,h8,h9,h10,h11,h12,h13,h14,h15⟩
 have n0:Aside0 (w44.heap[gb0]?=some (.cells #[.int .i64 t0,.int .i64 t1] 36 (0,0))):=⟨h0⟩
 have n1:Aside0 (w44.heap[gb1]?=some (.cells #[.int .i64 t2,.int .i64 t3] 36 (0,0))):=⟨h1⟩
 have n2:Aside0 (w44.heap[gb2]?=some (.cells #[.int .i64 0,.int .i64 0] 36 (0,0))):=⟨h2⟩
 have n3:Aside0 (w44.heap[gb3]?=some (.cells #[.bool t10,.int .u64 t11,.int .u64 t12] 107 (0,0))):=⟨h3⟩
 have n4:Aside0 (w44.heap[gb4]?=some (.cells #[.bool false,.int .u64 0,.int .u64 0] 107 (0,0))):=⟨h4⟩
 have n5:Aside0 (w.heap.size≤gb4):=⟨h5⟩
 have n6:Aside0 (w.heap.size≤gb4):=⟨h6⟩
 have n7:Aside0 (gb0≠gb4):=⟨h7⟩
 have n8:Aside0 (gb4≠gb0):=⟨h8⟩
 have n9:Aside0 (gb1≠gb4):=⟨h9⟩
 have n10:Aside0 (gb4≠gb1):=⟨h10⟩
 have n11:Aside0 (gb2≠gb4):=⟨h11⟩
 have n12:Aside0 (gb4≠gb2):=⟨h12⟩
 have n13:Aside0 (gb3≠gb4):=⟨h13⟩
 have n14:Aside0 (gb4≠gb3):=⟨h14⟩
 have n15:Aside0 (Below w.heap.size w w44):=⟨h15⟩
 clear BK0
 clear BK1
 clear BK2
 clear BK3
 clear HB
 clear h0 h1 h2 h3 h4 h5 h6 h7 h8 h9 h10 h11 h12 h13 h14 h15
 have BK0:=n0
 have BK1:=n1
 have BK2:=n2
 have BK3:=n3
 have BK4:=n4
 have GW1:=n5
 have GE4:=n6
 have NB12:=n7
 have NB13:=n8
 have NB14:=n9
 have NB15:=n10
 have NB16:=n11
 have NB17:=n12
 have NB18:=n13
 have NB19:=n14
 have HB:=n15
 clear n0 n1 n2 n3 n4 n5 n6 n7 n8 n9 n10 n11 n12 n13 n14 n15
 have hHeld:c_ w44 gb1 0 (.int .i64 t2)∧c_ w44 gb1 1 (.int .i64 t3)∧c_ w44 gb0 0 (.int .i64 t0)∧c_ w44 gb0 1 (.int .i64 t1):=hS_
 refine norm_ (a':=?_) ?_ ?_
 rotate_left;{
 simp only [putAll,Act.put,si,s0,s1]
 rfl}
 refine o1_ 10 (none) (m_ 11 2047) rfl rfl (oo HT_) (fun K hK=>?_)
 have hs7:c_ w44 gb4 0 (.bool false):=ct BK4 0
 have hfs7:=blk_frozen BK4.out 0
 have hns17:=NB12.out
 have hns18:=NB14.out
 have hns19:=NB16.out
 have hns20:=NB18.out
 have hms17:=NB13.out
 have hms18:=NB15.out
 have hms19:=NB17.out
 have hms20:=NB19.out
 have hs8:c_ w44 gb4 1 (.int .u64 0):=ct BK4 1
 have hfs8:=blk_frozen BK4.out 1
 have hns21:=NB12.out
 have hns22:=NB14.out
 have hns23:=NB16.out
 have hns24:=NB18.out
 have hms21:=NB13.out
 have hms22:=NB15.out
 have hms23:=NB17.out
 have hms24:=NB19.out
 have hs9:c_ w44 gb4 2 (.int .u64 0):=ct BK4 2
 have hfs9:=blk_frozen BK4.out 2
 have hns25:=NB12.out
 have hns26:=NB14.out
 have hns27:=NB16.out
 have hns28:=NB18.out
 have hms25:=NB13.out
 have hms26:=NB15.out
 have hms27:=NB17.out
 have hms28:=NB19.out
 refine skip_ (w1:=?_) (by rfl) rfl ?_ ?_
 rotate_left;{
 go_simp
 rfl}
 refine hK.out _ _ (by obtain ⟨d0,d1,d2,d3⟩:=hHeld;exact ⟨fa_ NB14 (fa_ NB14 (fa_ NB14 d0)),fa_ NB14 (fa_ NB14 (fa_ NB14 d1)),fa_ NB12 (fa_ NB12 (fa_ NB12 d2)),fa_ NB12 (fa_ NB12 (fa_ NB12 d3))⟩) (fun hHeld=>?_)
 clear hK K
 refine done_ (done_of HT_.out (by kernel_rfl)) ?_
 try go_wp2
 have n0:Aside0 ((((w44.setCell ⟨gb4,0,none⟩ (.bool t22)).setCell ⟨gb4,1,none⟩ (.int .u64 t23)).setCell ⟨gb4,2,none⟩ (.int .u64 t24)).heap[gb0]?=some (.cells #[.int .i64 t0,.int .i64 t1] 36 (0,0))):=bu_ BK0
 have n1:Aside0 ((((w44.setCell ⟨gb4,0,none⟩ (.bool t22)).setCell ⟨gb4,1,none⟩ (.int .u64 t23)).setCell ⟨gb4,2,none⟩ (.int .u64 t24)).heap[gb1]?=some (.cells #[.int .i64 t2,.int .i64 t3] 36 (0,0))):=bu_ BK1
 have n2:Aside0 ((((w44.setCell ⟨gb4,0,none⟩ (.bool t22)).setCell ⟨gb4,1,none⟩ (.int .u64 t23)).setCell ⟨gb4,2,none⟩ (.int .u64 t24)).heap[gb2]?=some (.cells #[.int .i64 0,.int .i64 0] 36 (0,0))):=bu_ BK2
 have n3:Aside0 ((((w44.setCell ⟨gb4,0,none⟩ (.bool t22)).setCell ⟨gb4,1,none⟩ (.int .u64 t23)).setCell ⟨gb4,2,none⟩ (.int .u64 t24)).heap[gb3]?=some (.cells #[.bool t10,.int .u64 t11,.int .u64 t12] 107 (0,0))):=bu_ BK3
 have n4:Aside0 ((((w44.setCell ⟨gb4,0,none⟩ (.bool t22)).setCell ⟨gb4,1,none⟩ (.int .u64 t23)).setCell ⟨gb4,2,none⟩ (.int .u64 t24)).heap[gb4]?=some (.cells #[.bool t22,.int .u64 t23,.int .u64 t24] 107 (0,0))):=bq_ BK4
 have n5:Aside0 (Below w.heap.size w (((w44.setCell ⟨gb4,0,none⟩ (.bool t22)).setCell ⟨gb4,1,none⟩ (.int .u64 t23)).setCell ⟨gb4,2,none⟩ (.int .u64 t24))):=⟨bf HB⟩
 (try clear BK0);(try clear BK1);(try clear BK2);(try clear BK3);(try clear BK4);(try clear HB)
 generalize (((w44.setCell ⟨gb4,0,none⟩ (.bool t22)).setCell ⟨gb4,1,none⟩ (.int .u64 t23)).setCell ⟨gb4,2,none⟩ (.int .u64 t24))=w48 at n0 n1 n2 n3 n4 n5 ⊢
 have BK0:=n0
 have BK1:=n1
 have BK2:=n2
 have BK3:=n3
 have BK4:=n4
 have HB:=n5
 clear n0 n1 n2 n3 n4 n5
 replace BK0:=am (blk_drew BK0.out)
 replace BK1:=am (blk_drew BK1.out)
 replace BK2:=am (blk_drew BK2.out)
 replace BK3:=am (blk_drew BK3.out)
 replace BK4:=am (blk_drew BK4.out)
 replace HB:=am (below_drew1 HB.out)
 refine start_ (n:=15) (S:=fun w'=>c_ w' gb3 0 (.bool t10)∧c_ w' gb3 1 (.int .u64 t11)∧c_ w' gb3 2 (.int .u64 t12)∧c_ w' gb4 0 (.bool t22)∧c_ w' gb4 1 (.int .u64 t23)∧c_ w' gb4 2 (.int .u64 t24)∧c_ w' gb0 0 (.int .i64 t0)∧c_ w' gb0 1 (.int .i64 t1)∧c_ w' gb1 0 (.int .i64 t2)∧c_ w' gb1 1 (.int .i64 t3)) (ds:=[]) (m_ 15 0) (by kernel_rfl) rfl rfl ⟨ct BK3 0,ct BK3 1,ct BK3 2,ct BK4 0,ct BK4 1,ct BK4 2,ct BK0 0,ct BK0 1,ct BK1 0,ct BK1 1⟩ (fun hHeld=>?_);refine with_tabW frac_added_fn53.tab4 frac_added_fn53.bits4 (fun HT_ HW_=>?_)
 generalize w48.drew=w49 at BK0 BK1 BK2 BK3 BK4 HB hHeld ⊢
 refine pu_ 3 (some 33) (m_ 15 8) rfl rfl (ao HT_) ?_
 refine pu_ 6 (some 36) (m_ 15 72) rfl rfl (ao HT_) ?_
 refine tk_ 0 (some 30) (m_ 15 73) rfl rfl (tw HT_ HW_) hHeld ?_
 refine tk_ 1 (some 31) (m_ 15 75) rfl rfl (tw HT_ HW_) hHeld ?_
 refine tk_ 4 (some 34) (m_ 15 91) rfl rfl (tw HT_ HW_) hHeld ?_
 refine tk_ 7 (some 37) (m_ 15 219) rfl rfl (tw HT_ HW_) hHeld ?_
 refine o1_ 2 (some 32) (m_ 15 223) rfl rfl (oo HT_) (fun K hK=>?_)
 refine gs_ rfl Tryd.func63 (frac_signed_plus.calls _ _ _ _ _ _ _ _ _ _ A2.out) ag ?_
 intro w50 hb
 replace BK0:=bb BK0 hb
 replace BK1:=bb BK1 hb
 replace BK2:=bb BK2 hb
 replace BK3:=bb BK3 hb
 replace BK4:=bb BK4 hb
 replace HB:=bs HB hb
 (try clear hb)
 refine hK.out _ _ ⟨ct BK3 0,ct BK3 1,ct BK3 2,ct BK4 0,ct BK4 1,ct BK4 2,ct BK0 0,ct BK0 1,ct BK1 0,ct BK1 1⟩ (fun hHeld=>?_)
 clear hK K
 refine nr_ (some 32) ?_
 refine o1_ 5 (some 35) (m_ 15 255) rfl rfl (oo HT_) (fun K hK=>?_)
 refine gs_ rfl Tryd.func60 (frac_sized.calls _ _ _ _ _ A13.out) ag ?_
 intro w51 hb
 replace BK0:=bb BK0 hb
 replace BK1:=bb BK1 hb
 replace BK2:=bb BK2 hb
 replace BK3:=bb BK3 hb
 replace BK4:=bb BK4 hb
 replace HB:=bs HB hb
 (try clear hb)
 refine hK.out _ _ ⟨ct BK3 0,ct BK3 1,ct BK3 2,ct BK4 0,ct BK4 1,ct BK4 2,ct BK0 0,ct BK0 1,ct BK1 0,ct BK1 1⟩ (fun hHeld=>?_)
 clear hK K
 refine nr_ (some 35) ?_
 refine o1_ 8 (some 38) (m_ 15 511) rfl rfl (oo HT_) (fun K hK=>?_)
 refine gs_ rfl Tryd.func60 (frac_sized.calls _ _ _ _ _ A14.out) ag ?_
 intro w52 hb
 replace BK0:=bb BK0 hb
 replace BK1:=bb BK1 hb
 replace BK2:=bb BK2 hb
 replace BK3:=bb BK3 hb
 replace BK4:=bb BK4 hb
 replace HB:=bs HB hb
 (try clear hb)
 refine hK.out _ _ ⟨ct BK3 0,ct BK3 1,ct BK3 2,ct BK4 0,ct BK4 1,ct BK4 2,ct BK0 0,ct BK0 1,ct BK1 0,ct BK1 1⟩ (fun hHeld=>?_)
 clear hK K
 refine nr_ (some 38) ?_
 refine o1_ 9 (some 39) (m_ 15 1023) rfl rfl (oo HT_) (fun K hK=>?_)
 refine gs_ rfl Tryd.func61 (frac_signed_times.calls _ _ _ _ _ _ _ _ _ _ A15.out) ag ?_
 intro w53 hb
 replace BK0:=bb BK0 hb
 replace BK1:=bb BK1 hb
 replace BK2:=bb BK2 hb
 replace BK3:=bb BK3 hb
 replace BK4:=bb BK4 hb
 replace HB:=bs HB hb
 (try clear hb)
 refine hK.out _ _ ⟨ct BK3 0,ct BK3 1,ct BK3 2,ct BK4 0,ct BK4 1,ct BK4 2,ct BK0 0,ct BK0 1,ct BK1 0,ct BK1 1⟩ (fun hHeld=>?_)
 clear hK K
 refine nr_ (some 39) ?_
 refine o1_ 10 (some 40) (m_ 15 2047) rfl rfl (oo HT_) (fun K hK=>?_)
 refine gs_ rfl Tryd.func62 (frac_reduced.calls _ _ _ _ _ _ _ _ _ _ _ A16.out (tt GT)) ag ?_
 intro w54 hb
 replace BK0:=bb BK0 hb
 replace BK1:=bb BK1 hb
 replace BK2:=bb BK2 hb
 replace BK3:=bb BK3 hb
 replace BK4:=bb BK4 hb
 replace HB:=bs HB hb
 (try clear hb)
 refine hK.out _ _ ⟨ct BK3 0,ct BK3 1,ct BK3 2,ct BK4 0,ct BK4 1,ct BK4 2,ct BK0 0,ct BK0 1,ct BK1 0,ct BK1 1⟩ (fun hHeld=>?_)
 clear hK K
 refine nr_ (some 40) ?_
 refine pu_ 11 (some 41) (m_ 15 4095) rfl rfl (ao HT_) ?_
 refine pu_ 12 (some 42) (m_ 15 8191) rfl rfl (ao HT_) ?_
 refine o1_ 13 (none) (m_ 15 16383) rfl rfl (oo HT_) (fun K hK=>?_)
 have hs55:c_ w54 gb2 0 (.int .i64 0):=ct BK2 0
 have hfs55:=blk_frozen BK2.out 0
 have hns29:=NB2.out
 have hns30:=NB4.out
 have hns31:=NB11.out
 have hns32:=NB17.out
 have hms29:=NB3.out
 have hms30:=NB5.out
 have hms31:=NB10.out
 have hms32:=NB16.out
 have hs56:c_ w54 gb2 1 (.int .i64 0):=ct BK2 1
 have hfs56:=blk_frozen BK2.out 1
 have hns33:=NB2.out
 have hns34:=NB4.out
 have hns35:=NB11.out
 have hns36:=NB17.out
 have hms33:=NB3.out
 have hms34:=NB5.out
 have hms35:=NB10.out
 have hms36:=NB16.out
 refine skip_ (w1:=?_) (by rfl) rfl ?_ ?_
 rotate_left;{
 go_simp
 rfl}
 refine hK.out _ _ (by obtain ⟨d0,d1,d2,d3,d4,d5,d6,d7,d8,d9⟩:=hHeld;exact ⟨fa_ NB11 (fa_ NB11 d0),fa_ NB11 (fa_ NB11 d1),fa_ NB11 (fa_ NB11 d2),fa_ NB17 (fa_ NB17 d3),fa_ NB17 (fa_ NB17 d4),fa_ NB17 (fa_ NB17 d5),fa_ NB2 (fa_ NB2 d6),fa_ NB2 (fa_ NB2 d7),fa_ NB4 (fa_ NB4 d8),fa_ NB4 (fa_ NB4 d9)⟩) (fun hHeld=>?_)
 clear hK K
 refine pu_ 14 (some 7) (m_ 15 32767) rfl rfl (ao HT_) ?_
 refine done_ (done_of HT_.out (by kernel_rfl)) ?_
 try go_wp2
 refine bodyPost_ret (results_ct rfl _ _ gb2 36 #[.int .i64 t37,.int .i64 t38] (0,0) _ rfl (br_ BK2) Tryd.underlying36 rfl (by kernel_rfl)) rfl ?_
 exact ⟨ae,bf HB⟩
end Go.Proofs.YtenphnkiacfmiaaDoor.X
