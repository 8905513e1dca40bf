/- Walks: each '.calls' says that the Go function comes to what its Lean function tells. Conditions: as each theorem's head says. -/
import Derived.Test.YtenphnkiacfmiaaDoorXD
import Derived.Test.YtenphnkiacfmiaaDoorX0
import Derived.Test.YtenphnkiacfmiaaDoorX17
import Derived.Test.YtenphnkiacfmiaaDoorX20
import Derived.Test.YtenphnkiacfmiaaDoorX21
import Derived.Test.YtenphnkiacfmiaaDoorX22
import Derived.Test.YtenphnkiacfmiaaDoorX23
namespace Go.Proofs.YtenphnkiacfmiaaDoor.X
open Go.RowKit Go.Proofs.YtenphnkiacfmiaaDoorW.PrintWords Go.Proofs.YtenphnkiacfmiaaDoorW.PrintLast Go.Proofs.YtenphnkiacfmiaaDoorW.PrintMore
attribute [local go_sem] max2_int min2_int max_two min_two max_three min_three max_four min_four
set_option linter.unusedVariables false
set_option maxHeartbeats 8000000
set_option maxRecDepth 100000
set_option linter.unusedSimpArgs false
def carrefourref02_Add.T5:Bool × List (List Nat × List Nat):=(true,[([],[]),([0],[0]),([1],[1]),([],[]),([3],[3]),([4],[4]),([2,5,2],[2,5]),([6,6],[6]),([7,7,0,1,2,3,4,5,6,7],[7])])
def carrefourref02_Add.B5:List Nat:=[0,1,3,0,8,24,63,127,255]
theorem carrefourref02_Add.tab5:rtab .any (opsOf Tryd.f12 5)=carrefourref02_Add.T5:=by kernel_rfl
theorem carrefourref02_Add.bits5:waitsOk carrefourref02_Add.T5.2 carrefourref02_Add.B5=true:=by kernel_rfl
def carrefourref02_Add.T6:Bool × List (List Nat × List Nat):=(true,[([],[]),([0],[0]),([1],[1]),([],[]),([3],[3]),([4],[4]),([2,5,2],[2,5]),([6,6],[6]),([7,7,0,1,2,3,4,5,6,7],[7])])
def carrefourref02_Add.B6:List Nat:=[0,1,3,0,8,24,63,127,255]
theorem carrefourref02_Add.tab6:rtab .any (opsOf Tryd.f12 6)=carrefourref02_Add.T6:=by kernel_rfl
theorem carrefourref02_Add.bits6:waitsOk carrefourref02_Add.T6.2 carrefourref02_Add.B6=true:=by kernel_rfl
def carrefourref02_Add.T9:Bool × List (List Nat × List Nat):=(true,[([],[]),([],[]),([0,1],[0,1]),([2,2],[2]),([],[]),([],[]),([5],[5]),([6],[6]),([3,4,7,3],[3,4,7]),([8],[8]),([8],[8]),([9,8,0,1,2,3,4,5,6,7,8,9,10],[9]),([10,11,0,1,2,3,4,5,6,7,8,9,10,11],[10])])
def carrefourref02_Add.B9:List Nat:=[0,0,3,7,0,0,32,96,255,511,511,2047,4095]
theorem carrefourref02_Add.tab9:rtab .any (opsOf Tryd.f12 9)=carrefourref02_Add.T9:=by kernel_rfl
theorem carrefourref02_Add.bits9:waitsOk carrefourref02_Add.T9.2 carrefourref02_Add.B9=true:=by kernel_rfl
def carrefourref02_Add.T11:Bool × List (List Nat × List Nat):=(true,[([],[]),([],[]),([0,1],[0,1]),([2,2],[2]),([],[]),([],[]),([5],[5]),([6],[6]),([3,4,7,3],[3,4,7]),([8],[8]),([8],[8]),([9,8,0,1,2,3,4,5,6,7,8,9,10],[9]),([10,11,0,1,2,3,4,5,6,7,8,9,10,11],[10])])
def carrefourref02_Add.B11:List Nat:=[0,0,3,7,0,0,32,96,255,511,511,2047,4095]
theorem carrefourref02_Add.tab11:rtab .any (opsOf Tryd.f12 11)=carrefourref02_Add.T11:=by kernel_rfl
theorem carrefourref02_Add.bits11:waitsOk carrefourref02_Add.T11.2 carrefourref02_Add.B11=true:=by kernel_rfl
def carrefourref02_Add.T12:Bool × List (List Nat × List Nat):=(true,[([],[]),([],[]),([0,1],[0,1]),([2,2],[2]),([],[]),([],[]),([5],[5]),([6],[6]),([3,4,7,3],[3,4,7]),([8],[8]),([8],[8]),([9,8,0,1,2,3,4,5,6,7,8,9,10],[9]),([10,11,0,1,2,3,4,5,6,7,8,9,10,11],[10])])
def carrefourref02_Add.B12:List Nat:=[0,0,3,7,0,0,32,96,255,511,511,2047,4095]
theorem carrefourref02_Add.tab12:rtab .any (opsOf Tryd.f12 12)=carrefourref02_Add.T12:=by kernel_rfl
theorem carrefourref02_Add.bits12:waitsOk carrefourref02_Add.T12.2 carrefourref02_Add.B12=true:=by kernel_rfl
theorem carrefourref02_Add.calls (k:Nat) (a0:Int) (a1:Int) (a2:Int) (a3:Int) (r1:Int) (r2:Int) (r3:Int) (w:World) (h:carrefourref02_Add.f k a0 a1 a2 a3=some (r1,r2,r3)) :
  Calls Tryd.prog 12 #[.agg #[.int .i64 a0,.int .i64 a1],.agg #[.int .i64 a2,.int .i64 a3]] w fun e w'=>e=.returned (.tuple #[.agg #[.int .i64 r1,.int .i64 r2],.int .i64 r3])∧Below w.heap.size w w':=by
 have hu0:=Tryd.underlying36
 have HB:=am (Below.refl w.heap.size w)
 have H:((carrefourref02_Norm.f k a0 a1).bind fun bt0=>((carrefourref02_Norm.f k a2 a3).bind fun bt1=>((carrefourref02_few.f bt0.1 bt0.2 bt1.1 bt1.2).bind fun t0=>(if t0=true then ((carrefourref02_Of.f k (wrap64 ((wrap64 (bt0.1*bt1.2))+(wrap64 (bt1.1*bt0.2)))) (wrap64 (bt0.2*bt1.2))).bind fun bt2=>(some (bt2.1,bt2.2.1,bt2.2.2))) else ((carrefourref01_Size.f bt0.1).bind fun t1=>((carrefourref01_Times.f k t1 (IntKind.u64.wrap (bt1.2))).bind fun t2=>((carrefourref02_trim.f k t2).bind fun t3=>((carrefourref01_Size.f bt1.1).bind fun t4=>((carrefourref01_Times.f k t4 (IntKind.u64.wrap (bt0.2))).bind fun t5=>((carrefourref02_trim.f k t5).bind fun t6=>((carrefourref01_Times.f k (IntKind.u64.wrap (bt0.2)) (IntKind.u64.wrap (bt1.2))).bind fun t7=>((carrefourref02_trim.f k t7).bind fun t8=>(if ((decide (bt0.1<0))==(decide (bt1.1<0)))=true then ((carrefourref01_Plus.f k t3 t6).bind fun t9=>((carrefourref02_trim.f k t9).bind fun t10=>((carrefourref02_lowest.f k t10 t8 (decide (bt0.1<0))).bind fun bt3=>(some (bt3.1,bt3.2.1,bt3.2.2))))) else ((carrefourref01_Order.f k t3 t6).bind fun t11=>(if t11≥0 then ((carrefourref01_Minus.f k t3 t6).bind fun t12=>((carrefourref02_trim.f k t12).bind fun t13=>((carrefourref02_lowest.f k t13 t8 (decide (bt0.1<0))).bind fun bt4=>(some (bt4.1,bt4.2.1,bt4.2.2))))) else ((carrefourref01_Minus.f k t6 t3).bind fun t14=>((carrefourref02_trim.f k t14).bind fun t15=>((carrefourref02_lowest.f k t15 t8 (decide (bt1.1<0))).bind fun bt5=>(some (bt5.1,bt5.2.1,bt5.2.2))))))))))))))))))))=some (r1,r2,r3):=h
 clear h
 replace H:=bi_ H;obtain ⟨⟨t16,t17⟩,A3,H⟩:=H
 (try dsimp only at H)
 replace H:=bi_ H;obtain ⟨⟨t18,t19⟩,A4,H⟩:=H
 (try dsimp only at H)
 replace H:=bi_ H;obtain ⟨t0,A5,H⟩:=H
 (try dsimp only at H)
 by_cases c6:t0=true;{
 subst c6
 have H1:((carrefourref02_Of.f k (wrap64 ((wrap64 (t16*t19))+(wrap64 (t18*t17)))) (wrap64 (t17*t19))).bind fun bt2=>(some (bt2.1,bt2.2.1,bt2.2.2)))=some (r1,r2,r3):=by rw [if_pos rfl] at H;exact H
 clear H
 have H:=H1
 clear H1
 replace H:=bi_ H;obtain ⟨⟨t20,t21,t22⟩,A7,H⟩:=H
 (try dsimp only at H)
 simp only [Option.some.injEq,Prod.mk.injEq] at H
 obtain ⟨rfl,rfl,rfl⟩:=H
 go_enter Tryd.func12,Tryd.ntmps12
 go_wp2_with (first|((with_reducible refine gd 2 rfl ?_);refine bx_ 2 36 #[.int .i64 a0,.int .i64 a1] rfl rfl ?_;intro gb0 hg w8 BK0 hb;have GE0:=bz HB hg;replace HB:=bs HB hb;clear hb hg)|((with_reducible refine gd 3 rfl ?_);refine bx_ 3 36 #[.int .i64 a2,.int .i64 a3] rfl rfl ?_;intro gb1 hg w9 BK1 hb;have GE1:=bz HB hg;have ⟨NB0,NB1⟩:=nb BK0 hg;replace BK0:=bb BK0 hb;replace HB:=bs HB hb;clear hb hg)|((with_reducible refine gd 4 rfl ?_);refine bx_ 4 36 #[.int .i64 0,.int .i64 0] rfl rfl ?_;intro gb2 hg w0 BK2 hb;have GE2:=bz HB hg;have ⟨NB2,NB3⟩:=nb BK0 hg;have ⟨NB4,NB5⟩:=nb BK1 hg;replace BK0:=bb BK0 hb;replace BK1:=bb BK1 hb;replace HB:=bs HB hb;clear hb hg;have hnb0:=nn NB0;have hnb1:=nn NB2;have hcz0:=X.k2 BK0)|((with_reducible refine gc 24 rfl ?_);refine gm_ (some 10) rfl rfl Tryd.func24 (carrefourref02_Norm.calls _ _ _ _ _ _ A3.out) ag ?_;intro w2 hb;replace BK0:=bb BK0 hb;replace BK1:=bb BK1 hb;replace BK2:=bb BK2 hb;replace HB:=bs HB hb;(try clear hb);have hcz1:=X.k2 BK0;have hnb2:=nn NB4;have hcz2:=X.k2 BK1)|((with_reducible refine gc 24 rfl ?_);refine gm_ (some 12) rfl rfl Tryd.func24 (carrefourref02_Norm.calls _ _ _ _ _ _ A4.out) ag ?_;intro w3 hb;replace BK0:=bp_ #[.int .i64 t16,.int .i64 t17] BK0 hb;replace BK1:=bb BK1 hb;replace BK2:=bb BK2 hb;replace HB:=bs HB hb;(try clear hb);have hcz3:=X.k2 BK1;have hcz4:=X.k2 BK0)|((with_reducible refine gc 26 rfl ?_);refine gm_ (some 15) rfl rfl Tryd.func26 (carrefourref02_few.calls _ _ _ _ _ _ A5.out) ag ?_;intro w4 hb;replace BK0:=bb BK0 hb;replace BK1:=bp_ #[.int .i64 t18,.int .i64 t19] BK1 hb;replace BK2:=bb BK2 hb;replace HB:=bs HB hb;(try clear hb);have hcz5:=X.k2 BK0;have hcz6:=X.k2 BK1)|((with_reducible refine gc 27 rfl ?_);refine gm_ (some 32) rfl rfl Tryd.func27 (carrefourref02_Of.calls _ (wrap64 ((wrap64 (t16*t19))+(wrap64 (t18*t17)))) (wrap64 (t17*t19)) _ _ _ _ A7.out) ag ?_;intro w5 hb;replace BK2:=bb BK2 hb;replace HB:=bs HB hb;(try clear hb);have hcz7:=X.k2 BK2))
 refine bodyPost_ret (results_ct rfl _ _ gb2 36 #[.int .i64 t20,.int .i64 t21] (0,0) _ rfl (br_ BK2) Tryd.underlying36 rfl (by kernel_rfl)) rfl ?_
 exact ⟨ae,bf HB⟩};{
 replace c6:=Bool.eq_false_iff.mpr c6
 subst c6
 have H1:((carrefourref01_Size.f t16).bind fun t1=>((carrefourref01_Times.f k t1 (IntKind.u64.wrap (t19))).bind fun t2=>((carrefourref02_trim.f k t2).bind fun t3=>((carrefourref01_Size.f t18).bind fun t4=>((carrefourref01_Times.f k t4 (IntKind.u64.wrap (t17))).bind fun t5=>((carrefourref02_trim.f k t5).bind fun t6=>((carrefourref01_Times.f k (IntKind.u64.wrap (t17)) (IntKind.u64.wrap (t19))).bind fun t7=>((carrefourref02_trim.f k t7).bind fun t8=>(if ((decide (t16<0))==(decide (t18<0)))=true then ((carrefourref01_Plus.f k t3 t6).bind fun t9=>((carrefourref02_trim.f k t9).bind fun t10=>((carrefourref02_lowest.f k t10 t8 (decide (t16<0))).bind fun bt3=>(some (bt3.1,bt3.2.1,bt3.2.2))))) else ((carrefourref01_Order.f k t3 t6).bind fun t11=>(if t11≥0 then ((carrefourref01_Minus.f k t3 t6).bind fun t12=>((carrefourref02_trim.f k t12).bind fun t13=>((carrefourref02_lowest.f k t13 t8 (decide (t16<0))).bind fun bt4=>(some (bt4.1,bt4.2.1,bt4.2.2))))) else ((carrefourref01_Minus.f k t6 t3).bind fun t14=>((carrefourref02_trim.f k t14).bind fun t15=>((carrefourref02_lowest.f k t15 t8 (decide (t18<0))).bind fun bt5=>(some (bt5.1,bt5.2.1,bt5.2.2))))))))))))))))=some (r1,r2,r3):=by rw [if_neg (show ¬ (false=true) by decide)] at H;exact H
 clear H
 have H:=H1
 clear H1
 replace H:=bi_ H;obtain ⟨t1,A0,H⟩:=H
 (try dsimp only at H)
 replace H:=bi_ H;obtain ⟨t2,A1,H⟩:=H
 (try dsimp only at H)
 replace H:=bi_ H;obtain ⟨t3,A2,H⟩:=H
 (try dsimp only at H)
 replace H:=bi_ H;obtain ⟨t4,A6,H⟩:=H
 (try dsimp only at H)
 replace H:=bi_ H;obtain ⟨t5,A8,H⟩:=H
 (try dsimp only at H)
 replace H:=bi_ H;obtain ⟨t6,A9,H⟩:=H
 (try dsimp only at H)
 replace H:=bi_ H;obtain ⟨t7,A32,H⟩:=H
 (try dsimp only at H)
 replace H:=bi_ H;obtain ⟨t8,A33,H⟩:=H
 (try dsimp only at H)
 by_cases c0:((decide (t16<0))==(decide (t18<0)))=true;{
 rw [if_pos c0] at H
 have c1:((decide (t16<0))==(decide (t18<0)))=true:=c0
 (try (have c2:decide ((decide (t16<0))=(decide (t18<0)))=true:=by simpa using c0))
 (try (have c3:((decide (t16<0))==(decide (t18<0)))=true:=by simpa using c0))
 clear c0
 replace H:=bi_ H;obtain ⟨t9,A35,H⟩:=H
 (try dsimp only at H)
 replace H:=bi_ H;obtain ⟨t10,A36,H⟩:=H
 (try dsimp only at H)
 replace H:=bi_ H;obtain ⟨⟨t23,t24,t25⟩,A37,H⟩:=H
 (try dsimp only at H)
 simp only [Option.some.injEq,Prod.mk.injEq] at H
 obtain ⟨rfl,rfl,rfl⟩:=H
 go_enter Tryd.func12,Tryd.ntmps12
 try go_wp2_with (first|((with_reducible refine gd 2 rfl ?_);refine bx_ 2 36 #[.int .i64 a0,.int .i64 a1] rfl rfl ?_;intro gb0 hg w6 BK0 hb;have GE0:=bz HB hg;replace HB:=bs HB hb;clear hb hg)|((with_reducible refine gd 3 rfl ?_);refine bx_ 3 36 #[.int .i64 a2,.int .i64 a3] rfl rfl ?_;intro gb1 hg w7 BK1 hb;have GE1:=bz HB hg;have ⟨NB0,NB1⟩:=nb BK0 hg;replace BK0:=bb BK0 hb;replace HB:=bs HB hb;clear hb hg)|((with_reducible refine gd 4 rfl ?_);refine bx_ 4 36 #[.int .i64 0,.int .i64 0] rfl rfl ?_;intro gb2 hg w40 BK2 hb;have GE2:=bz HB hg;have ⟨NB2,NB3⟩:=nb BK0 hg;have ⟨NB4,NB5⟩:=nb BK1 hg;replace BK0:=bb BK0 hb;replace BK1:=bb BK1 hb;replace HB:=bs HB hb;clear hb hg;have hnb3:=nn NB0;have hnb4:=nn NB2;have hcz8:=X.k2 BK0)|((with_reducible refine gc 24 rfl ?_);refine gm_ (some 10) rfl rfl Tryd.func24 (carrefourref02_Norm.calls _ _ _ _ _ _ A3.out) ag ?_;intro w44 hb;replace BK0:=bb BK0 hb;replace BK1:=bb BK1 hb;replace BK2:=bb BK2 hb;replace HB:=bs HB hb;(try clear hb);have hcz9:=X.k2 BK0;have hnb5:=nn NB4;have hcz47:=X.k2 BK1)|((with_reducible refine gc 24 rfl ?_);refine gm_ (some 12) rfl rfl Tryd.func24 (carrefourref02_Norm.calls _ _ _ _ _ _ A4.out) ag ?_;intro w48 hb;replace BK0:=bp_ #[.int .i64 t16,.int .i64 t17] BK0 hb;replace BK1:=bb BK1 hb;replace BK2:=bb BK2 hb;replace HB:=bs HB hb;(try clear hb);have hcz49:=X.k2 BK1;have hcz50:=X.k2 BK0)|((with_reducible refine gc 26 rfl ?_);refine gm_ (some 15) rfl rfl Tryd.func26 (carrefourref02_few.calls _ _ _ _ _ _ A5.out) ag ?_;intro w51 hb;replace BK0:=bb BK0 hb;replace BK1:=bp_ #[.int .i64 t18,.int .i64 t19] BK1 hb;replace BK2:=bb BK2 hb;replace HB:=bs HB hb;(try clear hb)))
 replace BK0:=am (blk_drew BK0.out)
 replace BK1:=am (blk_drew BK1.out)
 replace BK2:=am (blk_drew BK2.out)
 replace HB:=am (below_drew1 HB.out)
 refine start_ (n:=9) (S:=fun w'=>c_ w' gb0 0 (.int .i64 t16)∧c_ w' gb0 1 (.int .i64 t17)∧c_ w' gb1 0 (.int .i64 t18)∧c_ w' gb1 1 (.int .i64 t19)) (ds:=[]) (m_ 9 0) (by kernel_rfl) rfl rfl ⟨ct BK0 0,ct BK0 1,ct BK1 0,ct BK1 1⟩ (fun hHeld=>?_);refine with_tabW carrefourref02_Add.tab5 carrefourref02_Add.bits5 (fun HT_ HW_=>?_)
 generalize w51.drew=w52 at BK0 BK1 BK2 HB hHeld ⊢
 refine pu_ 0 (some 35) (m_ 9 1) rfl rfl (ao HT_) ?_
 refine pu_ 3 (some 38) (m_ 9 9) rfl rfl (ao HT_) ?_
 refine tk_ 1 (some 36) (m_ 9 11) rfl rfl (tw HT_ HW_) hHeld ?_
 refine tk_ 4 (some 39) (m_ 9 27) rfl rfl (tw HT_ HW_) hHeld ?_
 refine pu_ 5 (some 40) (m_ 9 59) rfl rfl (ao HT_) ?_
 refine o1_ 2 (some 37) (m_ 9 63) rfl rfl (oo HT_) (fun K hK=>?_)
 refine gs_ rfl Tryd.func30 (carrefourref01_Size.calls _ _ _ A0.out) ag ?_
 rintro w' ⟨nd,rfl⟩
 refine hK.out _ _ ⟨ct BK0 0,ct BK0 1,ct BK1 0,ct BK1 1⟩ (fun hHeld=>?_)
 clear hK K
 refine nr_ (some 37) ?_
 refine o1_ 6 (some 41) (m_ 9 127) rfl rfl (oo HT_) (fun K hK=>?_)
 refine goes_ Tryd.func29 (by kernel_rfl) rfl #[.int .u64 t1,.int .u64 (IntKind.u64.wrap (t19))] (by rfl) rfl rfl ag ?_
 with_reducible refine (carrefourref01_Times.calls _ _ (IntKind.u64.wrap (t19)) _ _ A1.out).mono ?_
 rintro e w53 ⟨v0,rfl,ho0,hb⟩
 refine ⟨_,rfl,?_⟩
 have HO0:=am (Kd.R_lower ho0 (below_size (bf HB)))
 replace BK0:=bb BK0 hb
 replace BK1:=bb BK1 hb
 replace BK2:=bb BK2 hb
 replace HB:=bs HB hb
 (try clear hb);(try clear ho0)
 obtain ⟨Ao0,co0,eo0⟩:=Kd.R_slice HO0.out
 (first|subst eo0|(injection eo0 with f1_ f2_ f3_;have f4_:=f1_.symm;have f5_:=f3_.symm;clear f1_ f2_ f3_;subst f4_;subst f5_))
 refine hK.out _ _ ⟨ct BK0 0,ct BK0 1,ct BK1 0,ct BK1 1⟩ (fun hHeld=>?_)
 clear hK K
 refine nr_ (some 41) ?_
 refine o1_ 7 (some 42) (m_ 9 255) rfl rfl (oo HT_) (fun K hK=>?_)
 refine goes_ Tryd.func28 (by kernel_rfl) rfl #[.slice Ao0 t2.length co0] (by rfl) rfl rfl ag ?_
 with_reducible refine (carrefourref02_trim.calls _ _ _ _ _ _ ?side1 ?side2 A2.out).mono ?_
 (case side1=>exact rc HO0)
 (case side2=>exact (Kd.R_reads' HO0.out).2.1)
 rintro e w55 ⟨v1,rfl,ho0,hb⟩
 refine ⟨_,rfl,?_⟩
 have HO1:=am (Kd.R_lower (Kd.R_new' ho0 (rl HO0)) (below_size (bf HB)))
 replace HO0:=re_ HO0 (Kd.R_base ho0) hb
 replace BK0:=bb BK0 hb
 replace BK1:=bb BK1 hb
 replace BK2:=bb BK2 hb
 replace HB:=bs HB hb
 (try clear hb);(try clear ho0)
 refine hK.out _ _ ⟨ct BK0 0,ct BK0 1,ct BK1 0,ct BK1 1⟩ (fun hHeld=>?_)
 clear hK K
 refine nr_ (some 42) ?_
 refine pu_ 8 (some 6) (m_ 9 511) rfl rfl (ao HT_) ?_
 refine done_ (done_of HT_.out (by kernel_rfl)) ?_
 try go_wp2
 replace HO0:=am (Kd.R_drew HO0.out)
 replace HO1:=am (Kd.R_drew HO1.out)
 replace BK0:=am (blk_drew BK0.out)
 replace BK1:=am (blk_drew BK1.out)
 replace BK2:=am (blk_drew BK2.out)
 replace HB:=am (below_drew1 HB.out)
 refine start_ (n:=9) (S:=fun w'=>c_ w' gb1 0 (.int .i64 t18)∧c_ w' gb1 1 (.int .i64 t19)∧c_ w' gb0 0 (.int .i64 t16)∧c_ w' gb0 1 (.int .i64 t17)) (ds:=[]) (m_ 9 0) (by kernel_rfl) rfl rfl ⟨ct BK1 0,ct BK1 1,ct BK0 0,ct BK0 1⟩ (fun hHeld=>?_);refine with_tabW carrefourref02_Add.tab6 carrefourref02_Add.bits6 (fun HT_ HW_=>?_)
 generalize w55.drew=w56 at HO0 HO1 BK0 BK1 BK2 HB hHeld ⊢
 refine pu_ 0 (some 43) (m_ 9 1) rfl rfl (ao HT_) ?_
 refine pu_ 3 (some 46) (m_ 9 9) rfl rfl (ao HT_) ?_
 refine tk_ 1 (some 44) (m_ 9 11) rfl rfl (tw HT_ HW_) hHeld ?_
 refine tk_ 4 (some 47) (m_ 9 27) rfl rfl (tw HT_ HW_) hHeld ?_
 refine pu_ 5 (some 48) (m_ 9 59) rfl rfl (ao HT_) ?_
 refine o1_ 2 (some 45) (m_ 9 63) rfl rfl (oo HT_) (fun K hK=>?_)
 refine gs_ rfl Tryd.func30 (carrefourref01_Size.calls _ _ _ A6.out) ag ?_
 rintro w' ⟨nd,rfl⟩
 refine hK.out _ _ ⟨ct BK1 0,ct BK1 1,ct BK0 0,ct BK0 1⟩ (fun hHeld=>?_)
 clear hK K
 refine nr_ (some 45) ?_
 refine o1_ 6 (some 49) (m_ 9 127) rfl rfl (oo HT_) (fun K hK=>?_)
 refine goes_ Tryd.func29 (by kernel_rfl) rfl #[.int .u64 t4,.int .u64 (IntKind.u64.wrap (t17))] (by rfl) rfl rfl ag ?_
 with_reducible refine (carrefourref01_Times.calls _ _ (IntKind.u64.wrap (t17)) _ _ A8.out).mono ?_
 rintro e w57 ⟨v2,rfl,ho0,hb⟩
 refine ⟨_,rfl,?_⟩
 have HO2:=am (Kd.R_lower (Kd.R_new' (Kd.R_new' ho0 (rl HO0)) (rl HO1)) (below_size (bf HB)))
 replace HO0:=re_ HO0 (Kd.R_base ho0) hb
 replace HO1:=re_ HO1 (Kd.R_base ho0) hb
 replace BK0:=bb BK0 hb
 replace BK1:=bb BK1 hb
 replace BK2:=bb BK2 hb
 replace HB:=bs HB hb
 (try clear hb);(try clear ho0)
 obtain ⟨Ao1,co1,eo1⟩:=Kd.R_slice HO2.out
 (first|subst eo1|(injection eo1 with f1_ f2_ f3_;have f4_:=f1_.symm;have f5_:=f3_.symm;clear f1_ f2_ f3_;subst f4_;subst f5_))
 refine hK.out _ _ ⟨ct BK1 0,ct BK1 1,ct BK0 0,ct BK0 1⟩ (fun hHeld=>?_)
 clear hK K
 refine nr_ (some 49) ?_
 refine o1_ 7 (some 50) (m_ 9 255) rfl rfl (oo HT_) (fun K hK=>?_)
 refine goes_ Tryd.func28 (by kernel_rfl) rfl #[.slice Ao1 t5.length co1] (by rfl) rfl rfl ag ?_
 with_reducible refine (carrefourref02_trim.calls _ _ _ _ _ _ ?side1 ?side2 A9.out).mono ?_
 (case side1=>exact rc HO2)
 (case side2=>exact (Kd.R_reads' HO2.out).2.1)
 rintro e w59 ⟨v3,rfl,ho0,hb⟩
 refine ⟨_,rfl,?_⟩
 have HO3:=am (Kd.R_lower (Kd.R_new' (Kd.R_new' (Kd.R_new' ho0 (rl HO0)) (rl HO1)) (rl HO2)) (below_size (bf HB)))
 replace HO0:=re_ HO0 (Kd.R_base ho0) hb
 replace HO1:=re_ HO1 (Kd.R_base ho0) hb
 replace HO2:=re_ HO2 (Kd.R_base ho0) hb
 replace BK0:=bb BK0 hb
 replace BK1:=bb BK1 hb
 replace BK2:=bb BK2 hb
 replace HB:=bs HB hb
 (try clear hb);(try clear ho0)
 refine hK.out _ _ ⟨ct BK1 0,ct BK1 1,ct BK0 0,ct BK0 1⟩ (fun hHeld=>?_)
 clear hK K
 refine nr_ (some 50) ?_
 refine pu_ 8 (some 7) (m_ 9 511) rfl rfl (ao HT_) ?_
 refine done_ (done_of HT_.out (by kernel_rfl)) ?_
 have hcz60:=X.k2 BK0
 have hcz61:=X.k2 BK1
 try go_wp2_with (first|((with_reducible refine gc 29 rfl ?_);refine gl_ (some 57) rfl rfl Tryd.func29 ((carrefourref01_Times.calls _ (IntKind.u64.wrap (t17)) (IntKind.u64.wrap (t19)) _ _ A32.out).mono ?_) ag;rintro e w62 ⟨v4,rfl,ho0,hb⟩;refine ⟨_,rfl,?_⟩;have HO4:=am (Kd.R_lower (Kd.R_new' (Kd.R_new' (Kd.R_new' (Kd.R_new' ho0 (rl HO0)) (rl HO1)) (rl HO2)) (rl HO3)) (below_size (bf HB)));replace HO0:=re_ HO0 (Kd.R_base ho0) hb;replace HO1:=re_ HO1 (Kd.R_base ho0) hb;replace HO2:=re_ HO2 (Kd.R_base ho0) hb;replace HO3:=re_ HO3 (Kd.R_base ho0) hb;replace BK0:=bb BK0 hb;replace BK1:=bb BK1 hb;replace BK2:=bb BK2 hb;replace HB:=bs HB hb;(try clear hb);(try clear ho0);obtain ⟨Ao2,co2,eo2⟩:=Kd.R_slice HO4.out;subst eo2)|((with_reducible refine gc 28 rfl ?_);refine gl_ (some 58) rfl rfl Tryd.func28 ((carrefourref02_trim.calls _ _ _ _ _ _ ?side1 ?side2 A33.out).mono ?_) ag;(case side1=>exact rc HO4);(case side2=>exact (Kd.R_reads' HO4.out).2.1);rintro e w64 ⟨v5,rfl,ho0,hb⟩;refine ⟨_,rfl,?_⟩;have HO5:=am (Kd.R_lower (Kd.R_new' (Kd.R_new' (Kd.R_new' (Kd.R_new' (Kd.R_new' ho0 (rl HO0)) (rl HO1)) (rl HO2)) (rl HO3)) (rl HO4)) (below_size (bf HB)));replace HO0:=re_ HO0 (Kd.R_base ho0) hb;replace HO1:=re_ HO1 (Kd.R_base ho0) hb;replace HO2:=re_ HO2 (Kd.R_base ho0) hb;replace HO3:=re_ HO3 (Kd.R_base ho0) hb;replace HO4:=re_ HO4 (Kd.R_base ho0) hb;replace BK0:=bb BK0 hb;replace BK1:=bb BK1 hb;replace BK2:=bb BK2 hb;replace HB:=bs HB hb;(try clear hb);(try clear ho0);have hcz65:=X.k2 BK0;have hcz66:=X.k2 BK1))
 replace HO0:=am (Kd.R_drew HO0.out)
 replace HO1:=am (Kd.R_drew HO1.out)
 replace HO2:=am (Kd.R_drew HO2.out)
 replace HO3:=am (Kd.R_drew HO3.out)
 replace HO4:=am (Kd.R_drew HO4.out)
 replace HO5:=am (Kd.R_drew HO5.out)
 replace BK0:=am (blk_drew BK0.out)
 replace BK1:=am (blk_drew BK1.out)
 replace BK2:=am (blk_drew BK2.out)
 replace HB:=am (below_drew1 HB.out)
 obtain ⟨Ao3,co3,eo3⟩:=Kd.R_slice HO1.out
 (first|subst eo3|(injection eo3 with f1_ f2_ f3_;have f4_:=f1_.symm;have f5_:=f3_.symm;clear f1_ f2_ f3_;subst f4_;subst f5_))
 obtain ⟨Ao4,co4,eo4⟩:=Kd.R_slice HO3.out
 (first|subst eo4|(injection eo4 with f1_ f2_ f3_;have f4_:=f1_.symm;have f5_:=f3_.symm;clear f1_ f2_ f3_;subst f4_;subst f5_))
 refine start_ (n:=13) (S:=fun w'=>c_ w' gb0 0 (.int .i64 t16)∧c_ w' gb0 1 (.int .i64 t17)) (ds:=[]) (m_ 13 0) (by kernel_rfl) rfl rfl ⟨ct BK0 0,ct BK0 1⟩ (fun hHeld=>?_);refine with_tabW carrefourref02_Add.tab9 carrefourref02_Add.bits9 (fun HT_ HW_=>?_)
 generalize w64.drew=w67 at HO0 HO1 HO2 HO3 HO4 HO5 BK0 BK1 BK2 HB hHeld ⊢
 refine pu_ 0 (some 66) (m_ 13 1) rfl rfl (ao HT_) ?_
 refine pu_ 1 (some 67) (m_ 13 3) rfl rfl (ao HT_) ?_
 refine pu_ 4 (some 70) (m_ 13 19) rfl rfl (ao HT_) ?_
 refine pu_ 5 (some 71) (m_ 13 51) rfl rfl (ao HT_) ?_
 refine tk_ 6 (some 72) (m_ 13 115) rfl rfl (tw HT_ HW_) hHeld ?_
 refine pu_ 7 (some 73) (m_ 13 243) rfl rfl (ao HT_) ?_
 refine o1_ 2 (some 68) (m_ 13 247) rfl rfl (oo HT_) (fun K hK=>?_)
 refine goes_ Tryd.func32 (by kernel_rfl) rfl #[.slice Ao3 t3.length co3,.slice Ao4 t6.length co4] (by rfl) rfl rfl ag ?_
 with_reducible refine (carrefourref01_Plus.calls _ _ _ _ _ _ _ _ _ ?side1 ?side2 ?side3 ?side4 A35.out).mono ?_
 (case side1=>exact rc HO1)
 (case side2=>exact (Kd.R_reads' HO1.out).2.1)
 (case side3=>exact rc HO3)
 (case side4=>exact (Kd.R_reads' HO3.out).2.1)
 rintro e w70 ⟨v6,rfl,ho0,hb⟩
 refine ⟨_,rfl,?_⟩
 have HO6:=am (Kd.R_lower (Kd.R_new' (Kd.R_new' (Kd.R_new' (Kd.R_new' (Kd.R_new' (Kd.R_new' ho0 (rl HO0)) (rl HO1)) (rl HO2)) (rl HO3)) (rl HO4)) (rl HO5)) (below_size (bf HB)))
 replace HO0:=re_ HO0 (Kd.R_base ho0) hb
 replace HO1:=re_ HO1 (Kd.R_base ho0) hb
 replace HO2:=re_ HO2 (Kd.R_base ho0) hb
 replace HO3:=re_ HO3 (Kd.R_base ho0) hb
 replace HO4:=re_ HO4 (Kd.R_base ho0) hb
 replace HO5:=re_ HO5 (Kd.R_base ho0) hb
 replace BK0:=bb BK0 hb
 replace BK1:=bb BK1 hb
 replace BK2:=bb BK2 hb
 replace HB:=bs HB hb
 (try clear hb);(try clear ho0)
 obtain ⟨Ao5,co5,eo5⟩:=Kd.R_slice HO6.out
 (first|subst eo5|(injection eo5 with f1_ f2_ f3_;have f4_:=f1_.symm;have f5_:=f3_.symm;clear f1_ f2_ f3_;subst f4_;subst f5_))
 refine hK.out _ _ ⟨ct BK0 0,ct BK0 1⟩ (fun hHeld=>?_)
 clear hK K
 refine nr_ (some 68) ?_
 refine o1_ 3 (some 69) (m_ 13 255) rfl rfl (oo HT_) (fun K hK=>?_)
 refine goes_ Tryd.func28 (by kernel_rfl) rfl #[.slice Ao5 t9.length co5] (by rfl) rfl rfl ag ?_
 with_reducible refine (carrefourref02_trim.calls _ _ _ _ _ _ ?side1 ?side2 A36.out).mono ?_
 (case side1=>exact rc HO6)
 (case side2=>exact (Kd.R_reads' HO6.out).2.1)
 rintro e w72 ⟨v7,rfl,ho0,hb⟩
 refine ⟨_,rfl,?_⟩
 have HO7:=am (Kd.R_lower (Kd.R_new' (Kd.R_new' (Kd.R_new' (Kd.R_new' (Kd.R_new' (Kd.R_new' (Kd.R_new' ho0 (rl HO0)) (rl HO1)) (rl HO2)) (rl HO3)) (rl HO4)) (rl HO5)) (rl HO6)) (below_size (bf HB)))
 replace HO0:=re_ HO0 (Kd.R_base ho0) hb
 replace HO1:=re_ HO1 (Kd.R_base ho0) hb
 replace HO2:=re_ HO2 (Kd.R_base ho0) hb
 replace HO3:=re_ HO3 (Kd.R_base ho0) hb
 replace HO4:=re_ HO4 (Kd.R_base ho0) hb
 replace HO5:=re_ HO5 (Kd.R_base ho0) hb
 replace HO6:=re_ HO6 (Kd.R_base ho0) hb
 replace BK0:=bb BK0 hb
 replace BK1:=bb BK1 hb
 replace BK2:=bb BK2 hb
 replace HB:=bs HB hb
 (try clear hb);(try clear ho0)
 obtain ⟨Ao6,co6,eo6⟩:=Kd.R_slice HO7.out
 (first|subst eo6|(injection eo6 with f1_ f2_ f3_;have f4_:=f1_.symm;have f5_:=f3_.symm;clear f1_ f2_ f3_;subst f4_;subst f5_))
 obtain ⟨Ao7,co7,eo7⟩:=Kd.R_slice HO5.out
 (first|subst eo7|(injection eo7 with f1_ f2_ f3_;have f4_:=f1_.symm;have f5_:=f3_.symm;clear f1_ f2_ f3_;subst f4_;subst f5_))
 refine hK.out _ _ ⟨ct BK0 0,ct BK0 1⟩ (fun hHeld=>?_)
 clear hK K
 refine nr_ (some 69) ?_
 refine o1_ 8 (some 74) (m_ 13 511) rfl rfl (oo HT_) (fun K hK=>?_)
 refine gs_ rfl Tryd.func31 (carrefourref02_lowest.calls _ (fun k_=>some k_=(.slice Ao6 t10.length co6:Value).ownBlock) _ _ _ (fun k_=>some k_=(.slice Ao7 t8.length co7:Value).ownBlock) _ _ _ (decide (t16<0)) _ _ _ _ ?side1 ?side2 A37.out) ag ?_
 (case side1=>exact Kd.R_V (Kd.R_tight rfl (Kd.R_types (Kd.R_types (Kd.R_types (HO7.out) BK0.out (by decide)) BK1.out (by decide)) BK2.out (by decide))))
 (case side2=>exact Kd.R_V (Kd.R_tight rfl (Kd.R_types (Kd.R_types (Kd.R_types (HO5.out) BK0.out (by decide)) BK1.out (by decide)) BK2.out (by decide))))
 intro w75 hb
 replace HO0:=rb HO0 hb
 replace HO1:=rb HO1 hb
 replace HO2:=rb HO2 hb
 replace HO3:=rb HO3 hb
 replace HO4:=rb HO4 hb
 replace HO5:=rb HO5 hb
 replace HO6:=rb HO6 hb
 replace HO7:=rb HO7 hb
 replace BK0:=bb BK0 hb
 replace BK2:=bb BK2 hb
 replace HB:=bs HB hb
 (try clear hb)
 refine hK.out _ _ ⟨ct BK0 0,ct BK0 1⟩ (fun hHeld=>?_)
 clear hK K
 refine nr_ (some 74) ?_
 refine pu_ 9 (some 75) (m_ 13 1023) rfl rfl (ao HT_) ?_
 refine pu_ 10 (some 76) (m_ 13 2047) rfl rfl (ao HT_) ?_
 refine o1_ 11 (none) (m_ 13 4095) rfl rfl (oo HT_) (fun K hK=>?_)
 have hs0:c_ w75 gb2 0 (.int .i64 0):=ct BK2 0
 have hfs0:=blk_frozen BK2.out 0
 have hns0:=NB2.out
 have hns1:=NB4.out
 have hms0:=NB3.out
 have hms1:=NB5.out
 have hs1:c_ w75 gb2 1 (.int .i64 0):=ct BK2 1
 have hfs1:=blk_frozen BK2.out 1
 have hns2:=NB2.out
 have hns3:=NB4.out
 have hms2:=NB3.out
 have hms3:=NB5.out
 refine skip_ (w1:=?_) (by rfl) rfl ?_ ?_
 rotate_left;{
 go_simp
 rfl}
 refine hK.out _ _ (by obtain ⟨d0,d1⟩:=hHeld;exact ⟨fa_ NB2 (fa_ NB2 d0),fa_ NB2 (fa_ NB2 d1)⟩) (fun hHeld=>?_)
 clear hK K
 refine pu_ 12 (some 5) (m_ 13 8191) rfl rfl (ao HT_) ?_
 refine done_ (done_of HT_.out (by kernel_rfl)) ?_
 try go_wp2
 refine bodyPost_ret (results_ct rfl _ _ gb2 36 #[.int .i64 t23,.int .i64 t24] (0,0) _ rfl (br_ BK2) Tryd.underlying36 rfl (by kernel_rfl)) rfl ?_
 exact ⟨ae,bf HB⟩};{
 rw [if_neg c0] at H
 have c1:((decide (t16<0))==(decide (t18<0)))=false:=by simpa using c0
 (try (have c2:decide ((decide (t16<0))=(decide (t18<0)))=false:=by simpa using c0))
 (try (have c3:((decide (t16<0))==(decide (t18<0)))=false:=by simpa using c0))
 (try (have c4:¬ ((decide (t16<0))=(decide (t18<0))):=by simpa using c0))
 clear c0
 replace H:=bi_ H;obtain ⟨t11,A78,H⟩:=H
 (try dsimp only at H)
 by_cases c5:t11≥0;{
 rw [if_pos c5] at H
 have c7:decide (0≤t11)=true:=decide_eq_true c5
 clear c5
 replace H:=bi_ H;obtain ⟨t12,A80,H⟩:=H
 (try dsimp only at H)
 replace H:=bi_ H;obtain ⟨t13,A81,H⟩:=H
 (try dsimp only at H)
 replace H:=bi_ H;obtain ⟨⟨t26,t27,t28⟩,A82,H⟩:=H
 (try dsimp only at H)
 simp only [Option.some.injEq,Prod.mk.injEq] at H
 obtain ⟨rfl,rfl,rfl⟩:=H
 go_enter Tryd.func12,Tryd.ntmps12
 try go_wp2_with (first|((with_reducible refine gd 2 rfl ?_);refine bx_ 2 36 #[.int .i64 a0,.int .i64 a1] rfl rfl ?_;intro gb0 hg w83 BK0 hb;have GE0:=bz HB hg;replace HB:=bs HB hb;clear hb hg)|((with_reducible refine gd 3 rfl ?_);refine bx_ 3 36 #[.int .i64 a2,.int .i64 a3] rfl rfl ?_;intro gb1 hg w84 BK1 hb;have GE1:=bz HB hg;have ⟨NB0,NB1⟩:=nb BK0 hg;replace BK0:=bb BK0 hb;replace HB:=bs HB hb;clear hb hg)|((with_reducible refine gd 4 rfl ?_);refine bx_ 4 36 #[.int .i64 0,.int .i64 0] rfl rfl ?_;intro gb2 hg w85 BK2 hb;have GE2:=bz HB hg;have ⟨NB2,NB3⟩:=nb BK0 hg;have ⟨NB4,NB5⟩:=nb BK1 hg;replace BK0:=bb BK0 hb;replace BK1:=bb BK1 hb;replace HB:=bs HB hb;clear hb hg;have hnb6:=nn NB0;have hnb7:=nn NB2;have hcz88:=X.k2 BK0)|((with_reducible refine gc 24 rfl ?_);refine gm_ (some 10) rfl rfl Tryd.func24 (carrefourref02_Norm.calls _ _ _ _ _ _ A3.out) ag ?_;intro w89 hb;replace BK0:=bb BK0 hb;replace BK1:=bb BK1 hb;replace BK2:=bb BK2 hb;replace HB:=bs HB hb;(try clear hb);have hcz90:=X.k2 BK0;have hnb8:=nn NB4;have hcz92:=X.k2 BK1)|((with_reducible refine gc 24 rfl ?_);refine gm_ (some 12) rfl rfl Tryd.func24 (carrefourref02_Norm.calls _ _ _ _ _ _ A4.out) ag ?_;intro w93 hb;replace BK0:=bp_ #[.int .i64 t16,.int .i64 t17] BK0 hb;replace BK1:=bb BK1 hb;replace BK2:=bb BK2 hb;replace HB:=bs HB hb;(try clear hb);have hcz94:=X.k2 BK1;have hcz95:=X.k2 BK0)|((with_reducible refine gc 26 rfl ?_);refine gm_ (some 15) rfl rfl Tryd.func26 (carrefourref02_few.calls _ _ _ _ _ _ A5.out) ag ?_;intro w96 hb;replace BK0:=bb BK0 hb;replace BK1:=bp_ #[.int .i64 t18,.int .i64 t19] BK1 hb;replace BK2:=bb BK2 hb;replace HB:=bs HB hb;(try clear hb)))
 replace BK0:=am (blk_drew BK0.out)
 replace BK1:=am (blk_drew BK1.out)
 replace BK2:=am (blk_drew BK2.out)
 replace HB:=am (below_drew1 HB.out)
 refine start_ (n:=9) (S:=fun w'=>c_ w' gb0 0 (.int .i64 t16)∧c_ w' gb0 1 (.int .i64 t17)∧c_ w' gb1 0 (.int .i64 t18)∧c_ w' gb1 1 (.int .i64 t19)) (ds:=[]) (m_ 9 0) (by kernel_rfl) rfl rfl ⟨ct BK0 0,ct BK0 1,ct BK1 0,ct BK1 1⟩ (fun hHeld=>?_);refine with_tabW carrefourref02_Add.tab5 carrefourref02_Add.bits5 (fun HT_ HW_=>?_)
 generalize w96.drew=w97 at BK0 BK1 BK2 HB hHeld ⊢
 refine pu_ 0 (some 35) (m_ 9 1) rfl rfl (ao HT_) ?_
 refine pu_ 3 (some 38) (m_ 9 9) rfl rfl (ao HT_) ?_
 refine tk_ 1 (some 36) (m_ 9 11) rfl rfl (tw HT_ HW_) hHeld ?_
 refine tk_ 4 (some 39) (m_ 9 27) rfl rfl (tw HT_ HW_) hHeld ?_
 refine pu_ 5 (some 40) (m_ 9 59) rfl rfl (ao HT_) ?_
 refine o1_ 2 (some 37) (m_ 9 63) rfl rfl (oo HT_) (fun K hK=>?_)
 refine gs_ rfl Tryd.func30 (carrefourref01_Size.calls _ _ _ A0.out) ag ?_
 rintro w' ⟨nd,rfl⟩
 refine hK.out _ _ ⟨ct BK0 0,ct BK0 1,ct BK1 0,ct BK1 1⟩ (fun hHeld=>?_)
 clear hK K
 refine nr_ (some 37) ?_
 refine o1_ 6 (some 41) (m_ 9 127) rfl rfl (oo HT_) (fun K hK=>?_)
 refine goes_ Tryd.func29 (by kernel_rfl) rfl #[.int .u64 t1,.int .u64 (IntKind.u64.wrap (t19))] (by rfl) rfl rfl ag ?_
 with_reducible refine (carrefourref01_Times.calls _ _ (IntKind.u64.wrap (t19)) _ _ A1.out).mono ?_
 rintro e w98 ⟨v0,rfl,ho0,hb⟩
 refine ⟨_,rfl,?_⟩
 have HO0:=am (Kd.R_lower ho0 (below_size (bf HB)))
 replace BK0:=bb BK0 hb
 replace BK1:=bb BK1 hb
 replace BK2:=bb BK2 hb
 replace HB:=bs HB hb
 (try clear hb);(try clear ho0)
 obtain ⟨Ao8,co8,eo8⟩:=Kd.R_slice HO0.out
 (first|subst eo8|(injection eo8 with f1_ f2_ f3_;have f4_:=f1_.symm;have f5_:=f3_.symm;clear f1_ f2_ f3_;subst f4_;subst f5_))
 refine hK.out _ _ ⟨ct BK0 0,ct BK0 1,ct BK1 0,ct BK1 1⟩ (fun hHeld=>?_)
 clear hK K
 refine nr_ (some 41) ?_
 refine o1_ 7 (some 42) (m_ 9 255) rfl rfl (oo HT_) (fun K hK=>?_)
 refine goes_ Tryd.func28 (by kernel_rfl) rfl #[.slice Ao8 t2.length co8] (by rfl) rfl rfl ag ?_
 with_reducible refine (carrefourref02_trim.calls _ _ _ _ _ _ ?side1 ?side2 A2.out).mono ?_
 (case side1=>exact rc HO0)
 (case side2=>exact (Kd.R_reads' HO0.out).2.1)
 rintro e w42 ⟨v1,rfl,ho0,hb⟩
 refine ⟨_,rfl,?_⟩
 have HO1:=am (Kd.R_lower (Kd.R_new' ho0 (rl HO0)) (below_size (bf HB)))
 replace HO0:=re_ HO0 (Kd.R_base ho0) hb
 replace BK0:=bb BK0 hb
 replace BK1:=bb BK1 hb
 replace BK2:=bb BK2 hb
 replace HB:=bs HB hb
 (try clear hb);(try clear ho0)
 refine hK.out _ _ ⟨ct BK0 0,ct BK0 1,ct BK1 0,ct BK1 1⟩ (fun hHeld=>?_)
 clear hK K
 refine nr_ (some 42) ?_
 refine pu_ 8 (some 6) (m_ 9 511) rfl rfl (ao HT_) ?_
 refine done_ (done_of HT_.out (by kernel_rfl)) ?_
 try go_wp2
 replace HO0:=am (Kd.R_drew HO0.out)
 replace HO1:=am (Kd.R_drew HO1.out)
 replace BK0:=am (blk_drew BK0.out)
 replace BK1:=am (blk_drew BK1.out)
 replace BK2:=am (blk_drew BK2.out)
 replace HB:=am (below_drew1 HB.out)
 refine start_ (n:=9) (S:=fun w'=>c_ w' gb1 0 (.int .i64 t18)∧c_ w' gb1 1 (.int .i64 t19)∧c_ w' gb0 0 (.int .i64 t16)∧c_ w' gb0 1 (.int .i64 t17)) (ds:=[]) (m_ 9 0) (by kernel_rfl) rfl rfl ⟨ct BK1 0,ct BK1 1,ct BK0 0,ct BK0 1⟩ (fun hHeld=>?_);refine with_tabW carrefourref02_Add.tab6 carrefourref02_Add.bits6 (fun HT_ HW_=>?_)
 generalize w42.drew=w43 at HO0 HO1 BK0 BK1 BK2 HB hHeld ⊢
 refine pu_ 0 (some 43) (m_ 9 1) rfl rfl (ao HT_) ?_
 refine pu_ 3 (some 46) (m_ 9 9) rfl rfl (ao HT_) ?_
 refine tk_ 1 (some 44) (m_ 9 11) rfl rfl (tw HT_ HW_) hHeld ?_
 refine tk_ 4 (some 47) (m_ 9 27) rfl rfl (tw HT_ HW_) hHeld ?_
 refine pu_ 5 (some 48) (m_ 9 59) rfl rfl (ao HT_) ?_
 refine o1_ 2 (some 45) (m_ 9 63) rfl rfl (oo HT_) (fun K hK=>?_)
 refine gs_ rfl Tryd.func30 (carrefourref01_Size.calls _ _ _ A6.out) ag ?_
 rintro w' ⟨nd,rfl⟩
 refine hK.out _ _ ⟨ct BK1 0,ct BK1 1,ct BK0 0,ct BK0 1⟩ (fun hHeld=>?_)
 clear hK K
 refine nr_ (some 45) ?_
 refine o1_ 6 (some 49) (m_ 9 127) rfl rfl (oo HT_) (fun K hK=>?_)
 refine goes_ Tryd.func29 (by kernel_rfl) rfl #[.int .u64 t4,.int .u64 (IntKind.u64.wrap (t17))] (by rfl) rfl rfl ag ?_
 with_reducible refine (carrefourref01_Times.calls _ _ (IntKind.u64.wrap (t17)) _ _ A8.out).mono ?_
 rintro e w45 ⟨v2,rfl,ho0,hb⟩
 refine ⟨_,rfl,?_⟩
 have HO2:=am (Kd.R_lower (Kd.R_new' (Kd.R_new' ho0 (rl HO0)) (rl HO1)) (below_size (bf HB)))
 replace HO0:=re_ HO0 (Kd.R_base ho0) hb
 replace HO1:=re_ HO1 (Kd.R_base ho0) hb
 replace BK0:=bb BK0 hb
 replace BK1:=bb BK1 hb
 replace BK2:=bb BK2 hb
 replace HB:=bs HB hb
 (try clear hb);(try clear ho0)
 obtain ⟨Ao9,co9,eo9⟩:=Kd.R_slice HO2.out
 (first|subst eo9|(injection eo9 with f1_ f2_ f3_;have f4_:=f1_.symm;have f5_:=f3_.symm;clear f1_ f2_ f3_;subst f4_;subst f5_))
 refine hK.out _ _ ⟨ct BK1 0,ct BK1 1,ct BK0 0,ct BK0 1⟩ (fun hHeld=>?_)
 clear hK K
 refine nr_ (some 49) ?_
 refine o1_ 7 (some 50) (m_ 9 255) rfl rfl (oo HT_) (fun K hK=>?_)
 refine goes_ Tryd.func28 (by kernel_rfl) rfl #[.slice Ao9 t5.length co9] (by rfl) rfl rfl ag ?_
 with_reducible refine (carrefourref02_trim.calls _ _ _ _ _ _ ?side1 ?side2 A9.out).mono ?_
 (case side1=>exact rc HO2)
 (case side2=>exact (Kd.R_reads' HO2.out).2.1)
 rintro e w46 ⟨v3,rfl,ho0,hb⟩
 refine ⟨_,rfl,?_⟩
 have HO3:=am (Kd.R_lower (Kd.R_new' (Kd.R_new' (Kd.R_new' ho0 (rl HO0)) (rl HO1)) (rl HO2)) (below_size (bf HB)))
 replace HO0:=re_ HO0 (Kd.R_base ho0) hb
 replace HO1:=re_ HO1 (Kd.R_base ho0) hb
 replace HO2:=re_ HO2 (Kd.R_base ho0) hb
 replace BK0:=bb BK0 hb
 replace BK1:=bb BK1 hb
 replace BK2:=bb BK2 hb
 replace HB:=bs HB hb
 (try clear hb);(try clear ho0)
 refine hK.out _ _ ⟨ct BK1 0,ct BK1 1,ct BK0 0,ct BK0 1⟩ (fun hHeld=>?_)
 clear hK K
 refine nr_ (some 50) ?_
 refine pu_ 8 (some 7) (m_ 9 511) rfl rfl (ao HT_) ?_
 refine done_ (done_of HT_.out (by kernel_rfl)) ?_
 have hcz30:=X.k2 BK0
 have hcz31:=X.k2 BK1
 try go_wp2_with (first|((with_reducible refine gc 29 rfl ?_);refine gl_ (some 57) rfl rfl Tryd.func29 ((carrefourref01_Times.calls _ (IntKind.u64.wrap (t17)) (IntKind.u64.wrap (t19)) _ _ A32.out).mono ?_) ag;rintro e w47 ⟨v4,rfl,ho0,hb⟩;refine ⟨_,rfl,?_⟩;have HO4:=am (Kd.R_lower (Kd.R_new' (Kd.R_new' (Kd.R_new' (Kd.R_new' ho0 (rl HO0)) (rl HO1)) (rl HO2)) (rl HO3)) (below_size (bf HB)));replace HO0:=re_ HO0 (Kd.R_base ho0) hb;replace HO1:=re_ HO1 (Kd.R_base ho0) hb;replace HO2:=re_ HO2 (Kd.R_base ho0) hb;replace HO3:=re_ HO3 (Kd.R_base ho0) hb;replace BK0:=bb BK0 hb;replace BK1:=bb BK1 hb;replace BK2:=bb BK2 hb;replace HB:=bs HB hb;(try clear hb);(try clear ho0);obtain ⟨Ao10,co10,eo10⟩:=Kd.R_slice HO4.out;subst eo10)|((with_reducible refine gc 28 rfl ?_);refine gl_ (some 58) rfl rfl Tryd.func28 ((carrefourref02_trim.calls _ _ _ _ _ _ ?side1 ?side2 A33.out).mono ?_) ag;(case side1=>exact rc HO4);(case side2=>exact (Kd.R_reads' HO4.out).2.1);rintro e w49 ⟨v5,rfl,ho0,hb⟩;refine ⟨_,rfl,?_⟩;have HO5:=am (Kd.R_lower (Kd.R_new' (Kd.R_new' (Kd.R_new' (Kd.R_new' (Kd.R_new' ho0 (rl HO0)) (rl HO1)) (rl HO2)) (rl HO3)) (rl HO4)) (below_size (bf HB)));replace HO0:=re_ HO0 (Kd.R_base ho0) hb;replace HO1:=re_ HO1 (Kd.R_base ho0) hb;replace HO2:=re_ HO2 (Kd.R_base ho0) hb;replace HO3:=re_ HO3 (Kd.R_base ho0) hb;replace HO4:=re_ HO4 (Kd.R_base ho0) hb;replace BK0:=bb BK0 hb;replace BK1:=bb BK1 hb;replace BK2:=bb BK2 hb;replace HB:=bs HB hb;(try clear hb);(try clear ho0);have hcz32:=X.k2 BK0;have hcz33:=X.k2 BK1;obtain ⟨Ao11,co11,eo11⟩:=Kd.R_slice HO1.out;subst eo11;obtain ⟨Ao12,co12,eo12⟩:=Kd.R_slice HO3.out;subst eo12)|((with_reducible refine gc 33 rfl ?_);refine gm_ (some 79) rfl rfl Tryd.func33 (carrefourref01_Order.calls _ _ _ _ _ _ _ _ _ ?side1 ?side2 ?side3 ?side4 A78.out) ag ?_;(case side1=>exact rc HO1);(case side2=>exact (Kd.R_reads' HO1.out).2.1);(case side3=>exact rc HO3);(case side4=>exact (Kd.R_reads' HO3.out).2.1);intro w50 hb;replace HO0:=rb HO0 hb;replace HO1:=rb HO1 hb;replace HO2:=rb HO2 hb;replace HO3:=rb HO3 hb;replace HO4:=rb HO4 hb;replace HO5:=rb HO5 hb;replace BK0:=bb BK0 hb;replace BK1:=bb BK1 hb;replace BK2:=bb BK2 hb;replace HB:=bs HB hb;(try clear hb)))
 replace HO0:=am (Kd.R_drew HO0.out)
 replace HO1:=am (Kd.R_drew HO1.out)
 replace HO2:=am (Kd.R_drew HO2.out)
 replace HO3:=am (Kd.R_drew HO3.out)
 replace HO4:=am (Kd.R_drew HO4.out)
 replace HO5:=am (Kd.R_drew HO5.out)
 replace BK0:=am (blk_drew BK0.out)
 replace BK1:=am (blk_drew BK1.out)
 replace BK2:=am (blk_drew BK2.out)
 replace HB:=am (below_drew1 HB.out)
 refine start_ (n:=13) (S:=fun w'=>c_ w' gb0 0 (.int .i64 t16)∧c_ w' gb0 1 (.int .i64 t17)) (ds:=[]) (m_ 13 0) (by kernel_rfl) rfl rfl ⟨ct BK0 0,ct BK0 1⟩ (fun hHeld=>?_);refine with_tabW carrefourref02_Add.tab11 carrefourref02_Add.bits11 (fun HT_ HW_=>?_)
 generalize w50.drew=w54 at HO0 HO1 HO2 HO3 HO4 HO5 BK0 BK1 BK2 HB hHeld ⊢
 refine pu_ 0 (some 81) (m_ 13 1) rfl rfl (ao HT_) ?_
 refine pu_ 1 (some 82) (m_ 13 3) rfl rfl (ao HT_) ?_
 refine pu_ 4 (some 85) (m_ 13 19) rfl rfl (ao HT_) ?_
 refine pu_ 5 (some 86) (m_ 13 51) rfl rfl (ao HT_) ?_
 refine tk_ 6 (some 87) (m_ 13 115) rfl rfl (tw HT_ HW_) hHeld ?_
 refine pu_ 7 (some 88) (m_ 13 243) rfl rfl (ao HT_) ?_
 refine o1_ 2 (some 83) (m_ 13 247) rfl rfl (oo HT_) (fun K hK=>?_)
 refine goes_ Tryd.func34 (by kernel_rfl) rfl #[.slice Ao11 t3.length co11,.slice Ao12 t6.length co12] (by rfl) rfl rfl ag ?_
 with_reducible refine (carrefourref01_Minus.calls _ _ _ _ _ _ _ _ _ ?side1 ?side2 ?side3 ?side4 A80.out).mono ?_
 (case side1=>exact rc HO1)
 (case side2=>exact (Kd.R_reads' HO1.out).2.1)
 (case side3=>exact rc HO3)
 (case side4=>exact (Kd.R_reads' HO3.out).2.1)
 rintro e w58 ⟨v8,rfl,ho0,hb⟩
 refine ⟨_,rfl,?_⟩
 have HO8:=am (Kd.R_lower (Kd.R_new' (Kd.R_new' (Kd.R_new' (Kd.R_new' (Kd.R_new' (Kd.R_new' ho0 (rl HO0)) (rl HO1)) (rl HO2)) (rl HO3)) (rl HO4)) (rl HO5)) (below_size (bf HB)))
 replace HO0:=re_ HO0 (Kd.R_base ho0) hb
 replace HO1:=re_ HO1 (Kd.R_base ho0) hb
 replace HO2:=re_ HO2 (Kd.R_base ho0) hb
 replace HO3:=re_ HO3 (Kd.R_base ho0) hb
 replace HO4:=re_ HO4 (Kd.R_base ho0) hb
 replace HO5:=re_ HO5 (Kd.R_base ho0) hb
 replace BK0:=bb BK0 hb
 replace BK1:=bb BK1 hb
 replace BK2:=bb BK2 hb
 replace HB:=bs HB hb
 (try clear hb);(try clear ho0)
 obtain ⟨Ao13,co13,eo13⟩:=Kd.R_slice HO8.out
 (first|subst eo13|(injection eo13 with f1_ f2_ f3_;have f4_:=f1_.symm;have f5_:=f3_.symm;clear f1_ f2_ f3_;subst f4_;subst f5_))
 refine hK.out _ _ ⟨ct BK0 0,ct BK0 1⟩ (fun hHeld=>?_)
 clear hK K
 refine nr_ (some 83) ?_
 refine o1_ 3 (some 84) (m_ 13 255) rfl rfl (oo HT_) (fun K hK=>?_)
 refine goes_ Tryd.func28 (by kernel_rfl) rfl #[.slice Ao13 t12.length co13] (by rfl) rfl rfl ag ?_
 with_reducible refine (carrefourref02_trim.calls _ _ _ _ _ _ ?side1 ?side2 A81.out).mono ?_
 (case side1=>exact rc HO8)
 (case side2=>exact (Kd.R_reads' HO8.out).2.1)
 rintro e w60 ⟨v9,rfl,ho0,hb⟩
 refine ⟨_,rfl,?_⟩
 have HO9:=am (Kd.R_lower (Kd.R_new' (Kd.R_new' (Kd.R_new' (Kd.R_new' (Kd.R_new' (Kd.R_new' (Kd.R_new' ho0 (rl HO0)) (rl HO1)) (rl HO2)) (rl HO3)) (rl HO4)) (rl HO5)) (rl HO8)) (below_size (bf HB)))
 replace HO0:=re_ HO0 (Kd.R_base ho0) hb
 replace HO1:=re_ HO1 (Kd.R_base ho0) hb
 replace HO2:=re_ HO2 (Kd.R_base ho0) hb
 replace HO3:=re_ HO3 (Kd.R_base ho0) hb
 replace HO4:=re_ HO4 (Kd.R_base ho0) hb
 replace HO5:=re_ HO5 (Kd.R_base ho0) hb
 replace HO8:=re_ HO8 (Kd.R_base ho0) hb
 replace BK0:=bb BK0 hb
 replace BK1:=bb BK1 hb
 replace BK2:=bb BK2 hb
 replace HB:=bs HB hb
 (try clear hb);(try clear ho0)
 obtain ⟨Ao14,co14,eo14⟩:=Kd.R_slice HO9.out
 (first|subst eo14|(injection eo14 with f1_ f2_ f3_;have f4_:=f1_.symm;have f5_:=f3_.symm;clear f1_ f2_ f3_;subst f4_;subst f5_))
 obtain ⟨Ao15,co15,eo15⟩:=Kd.R_slice HO5.out
 (first|subst eo15|(injection eo15 with f1_ f2_ f3_;have f4_:=f1_.symm;have f5_:=f3_.symm;clear f1_ f2_ f3_;subst f4_;subst f5_))
 refine hK.out _ _ ⟨ct BK0 0,ct BK0 1⟩ (fun hHeld=>?_)
 clear hK K
 refine nr_ (some 84) ?_
 refine o1_ 8 (some 89) (m_ 13 511) rfl rfl (oo HT_) (fun K hK=>?_)
 refine gs_ rfl Tryd.func31 (carrefourref02_lowest.calls _ (fun k_=>some k_=(.slice Ao14 t13.length co14:Value).ownBlock) _ _ _ (fun k_=>some k_=(.slice Ao15 t8.length co15:Value).ownBlock) _ _ _ (decide (t16<0)) _ _ _ _ ?side1 ?side2 A82.out) ag ?_
 (case side1=>exact Kd.R_V (Kd.R_tight rfl (Kd.R_types (Kd.R_types (Kd.R_types (HO9.out) BK0.out (by decide)) BK1.out (by decide)) BK2.out (by decide))))
 (case side2=>exact Kd.R_V (Kd.R_tight rfl (Kd.R_types (Kd.R_types (Kd.R_types (HO5.out) BK0.out (by decide)) BK1.out (by decide)) BK2.out (by decide))))
 intro w61 hb
 replace HO0:=rb HO0 hb
 replace HO1:=rb HO1 hb
 replace HO2:=rb HO2 hb
 replace HO3:=rb HO3 hb
 replace HO4:=rb HO4 hb
 replace HO5:=rb HO5 hb
 replace HO8:=rb HO8 hb
 replace HO9:=rb HO9 hb
 replace BK0:=bb BK0 hb
 replace BK2:=bb BK2 hb
 replace HB:=bs HB hb
 (try clear hb)
 refine hK.out _ _ ⟨ct BK0 0,ct BK0 1⟩ (fun hHeld=>?_)
 clear hK K
 refine nr_ (some 89) ?_
 refine pu_ 9 (some 90) (m_ 13 1023) rfl rfl (ao HT_) ?_
 refine pu_ 10 (some 91) (m_ 13 2047) rfl rfl (ao HT_) ?_
 refine o1_ 11 (none) (m_ 13 4095) rfl rfl (oo HT_) (fun K hK=>?_)
 have hs2:c_ w61 gb2 0 (.int .i64 0):=ct BK2 0
 have hfs2:=blk_frozen BK2.out 0
 have hns4:=NB2.out
 have hns5:=NB4.out
 have hms4:=NB3.out
 have hms5:=NB5.out
 have hs3:c_ w61 gb2 1 (.int .i64 0):=ct BK2 1
 have hfs3:=blk_frozen BK2.out 1
 have hns6:=NB2.out
 have hns7:=NB4.out
 have hms6:=NB3.out
 have hms7:=NB5.out
 refine skip_ (w1:=?_) (by rfl) rfl ?_ ?_
 rotate_left;{
 go_simp
 rfl}
 refine hK.out _ _ (by obtain ⟨d0,d1⟩:=hHeld;exact ⟨fa_ NB2 (fa_ NB2 d0),fa_ NB2 (fa_ NB2 d1)⟩) (fun hHeld=>?_)
 clear hK K
 refine pu_ 12 (some 5) (m_ 13 8191) rfl rfl (ao HT_) ?_
 refine done_ (done_of HT_.out (by kernel_rfl)) ?_
 try go_wp2
 refine bodyPost_ret (results_ct rfl _ _ gb2 36 #[.int .i64 t26,.int .i64 t27] (0,0) _ rfl (br_ BK2) Tryd.underlying36 rfl (by kernel_rfl)) rfl ?_
 exact ⟨ae,bf HB⟩};{
 rw [if_neg c5] at H
 have c7:decide (0≤t11)=false:=decide_eq_false c5
 clear c5
 replace H:=bi_ H;obtain ⟨t14,A19,H⟩:=H
 (try dsimp only at H)
 replace H:=bi_ H;obtain ⟨t15,A20,H⟩:=H
 (try dsimp only at H)
 replace H:=bi_ H;obtain ⟨⟨t29,t30,t31⟩,A21,H⟩:=H
 (try dsimp only at H)
 simp only [Option.some.injEq,Prod.mk.injEq] at H
 obtain ⟨rfl,rfl,rfl⟩:=H
 go_enter Tryd.func12,Tryd.ntmps12
 try go_wp2_with (first|((with_reducible refine gd 2 rfl ?_);refine bx_ 2 36 #[.int .i64 a0,.int .i64 a1] rfl rfl ?_;intro gb0 hg w63 BK0 hb;have GE0:=bz HB hg;replace HB:=bs HB hb;clear hb hg)|((with_reducible refine gd 3 rfl ?_);refine bx_ 3 36 #[.int .i64 a2,.int .i64 a3] rfl rfl ?_;intro gb1 hg w65 BK1 hb;have GE1:=bz HB hg;have ⟨NB0,NB1⟩:=nb BK0 hg;replace BK0:=bb BK0 hb;replace HB:=bs HB hb;clear hb hg)|((with_reducible refine gd 4 rfl ?_);refine bx_ 4 36 #[.int .i64 0,.int .i64 0] rfl rfl ?_;intro gb2 hg w66 BK2 hb;have GE2:=bz HB hg;have ⟨NB2,NB3⟩:=nb BK0 hg;have ⟨NB4,NB5⟩:=nb BK1 hg;replace BK0:=bb BK0 hb;replace BK1:=bb BK1 hb;replace HB:=bs HB hb;clear hb hg;have hnb9:=nn NB0;have hnb10:=nn NB2;have hcz34:=X.k2 BK0)|((with_reducible refine gc 24 rfl ?_);refine gm_ (some 10) rfl rfl Tryd.func24 (carrefourref02_Norm.calls _ _ _ _ _ _ A3.out) ag ?_;intro w68 hb;replace BK0:=bb BK0 hb;replace BK1:=bb BK1 hb;replace BK2:=bb BK2 hb;replace HB:=bs HB hb;(try clear hb);have hcz35:=X.k2 BK0;have hnb13:=nn NB4;have hcz36:=X.k2 BK1)|((with_reducible refine gc 24 rfl ?_);refine gm_ (some 12) rfl rfl Tryd.func24 (carrefourref02_Norm.calls _ _ _ _ _ _ A4.out) ag ?_;intro w69 hb;replace BK0:=bp_ #[.int .i64 t16,.int .i64 t17] BK0 hb;replace BK1:=bb BK1 hb;replace BK2:=bb BK2 hb;replace HB:=bs HB hb;(try clear hb);have hcz37:=X.k2 BK1;have hcz38:=X.k2 BK0)|((with_reducible refine gc 26 rfl ?_);refine gm_ (some 15) rfl rfl Tryd.func26 (carrefourref02_few.calls _ _ _ _ _ _ A5.out) ag ?_;intro w71 hb;replace BK0:=bb BK0 hb;replace BK1:=bp_ #[.int .i64 t18,.int .i64 t19] BK1 hb;replace BK2:=bb BK2 hb;replace HB:=bs HB hb;(try clear hb)))
 replace BK0:=am (blk_drew BK0.out)
 replace BK1:=am (blk_drew BK1.out)
 replace BK2:=am (blk_drew BK2.out)
 replace HB:=am (below_drew1 HB.out)
 refine start_ (n:=9) (S:=fun w'=>c_ w' gb0 0 (.int .i64 t16)∧c_ w' gb0 1 (.int .i64 t17)∧c_ w' gb1 0 (.int .i64 t18)∧c_ w' gb1 1 (.int .i64 t19)) (ds:=[]) (m_ 9 0) (by kernel_rfl) rfl rfl ⟨ct BK0 0,ct BK0 1,ct BK1 0,ct BK1 1⟩ (fun hHeld=>?_);refine with_tabW carrefourref02_Add.tab5 carrefourref02_Add.bits5 (fun HT_ HW_=>?_)
 generalize w71.drew=w73 at BK0 BK1 BK2 HB hHeld ⊢
 refine pu_ 0 (some 35) (m_ 9 1) rfl rfl (ao HT_) ?_
 refine pu_ 3 (some 38) (m_ 9 9) rfl rfl (ao HT_) ?_
 refine tk_ 1 (some 36) (m_ 9 11) rfl rfl (tw HT_ HW_) hHeld ?_
 refine tk_ 4 (some 39) (m_ 9 27) rfl rfl (tw HT_ HW_) hHeld ?_
 refine pu_ 5 (some 40) (m_ 9 59) rfl rfl (ao HT_) ?_
 refine o1_ 2 (some 37) (m_ 9 63) rfl rfl (oo HT_) (fun K hK=>?_)
 refine gs_ rfl Tryd.func30 (carrefourref01_Size.calls _ _ _ A0.out) ag ?_
 rintro w' ⟨nd,rfl⟩
 refine hK.out _ _ ⟨ct BK0 0,ct BK0 1,ct BK1 0,ct BK1 1⟩ (fun hHeld=>?_)
 clear hK K
 refine nr_ (some 37) ?_
 refine o1_ 6 (some 41) (m_ 9 127) rfl rfl (oo HT_) (fun K hK=>?_)
 refine goes_ Tryd.func29 (by kernel_rfl) rfl #[.int .u64 t1,.int .u64 (IntKind.u64.wrap (t19))] (by rfl) rfl rfl ag ?_
 with_reducible refine (carrefourref01_Times.calls _ _ (IntKind.u64.wrap (t19)) _ _ A1.out).mono ?_
 rintro e w74 ⟨v0,rfl,ho0,hb⟩
 refine ⟨_,rfl,?_⟩
 have HO0:=am (Kd.R_lower ho0 (below_size (bf HB)))
 replace BK0:=bb BK0 hb
 replace BK1:=bb BK1 hb
 replace BK2:=bb BK2 hb
 replace HB:=bs HB hb
 (try clear hb);(try clear ho0)
 obtain ⟨Ao16,co16,eo16⟩:=Kd.R_slice HO0.out
 (first|subst eo16|(injection eo16 with f1_ f2_ f3_;have f4_:=f1_.symm;have f5_:=f3_.symm;clear f1_ f2_ f3_;subst f4_;subst f5_))
 refine hK.out _ _ ⟨ct BK0 0,ct BK0 1,ct BK1 0,ct BK1 1⟩ (fun hHeld=>?_)
 clear hK K
 refine nr_ (some 41) ?_
 refine o1_ 7 (some 42) (m_ 9 255) rfl rfl (oo HT_) (fun K hK=>?_)
 refine goes_ Tryd.func28 (by kernel_rfl) rfl #[.slice Ao16 t2.length co16] (by rfl) rfl rfl ag ?_
 with_reducible refine (carrefourref02_trim.calls _ _ _ _ _ _ ?side1 ?side2 A2.out).mono ?_
 (case side1=>exact rc HO0)
 (case side2=>exact (Kd.R_reads' HO0.out).2.1)
 rintro e w76 ⟨v1,rfl,ho0,hb⟩
 refine ⟨_,rfl,?_⟩
 have HO1:=am (Kd.R_lower (Kd.R_new' ho0 (rl HO0)) (below_size (bf HB)))
 replace HO0:=re_ HO0 (Kd.R_base ho0) hb
 replace BK0:=bb BK0 hb
 replace BK1:=bb BK1 hb
 replace BK2:=bb BK2 hb
 replace HB:=bs HB hb
 (try clear hb);(try clear ho0)
 refine hK.out _ _ ⟨ct BK0 0,ct BK0 1,ct BK1 0,ct BK1 1⟩ (fun hHeld=>?_)
 clear hK K
 refine nr_ (some 42) ?_
 refine pu_ 8 (some 6) (m_ 9 511) rfl rfl (ao HT_) ?_
 refine done_ (done_of HT_.out (by kernel_rfl)) ?_
 try go_wp2
 replace HO0:=am (Kd.R_drew HO0.out)
 replace HO1:=am (Kd.R_drew HO1.out)
 replace BK0:=am (blk_drew BK0.out)
 replace BK1:=am (blk_drew BK1.out)
 replace BK2:=am (blk_drew BK2.out)
 replace HB:=am (below_drew1 HB.out)
 refine start_ (n:=9) (S:=fun w'=>c_ w' gb1 0 (.int .i64 t18)∧c_ w' gb1 1 (.int .i64 t19)∧c_ w' gb0 0 (.int .i64 t16)∧c_ w' gb0 1 (.int .i64 t17)) (ds:=[]) (m_ 9 0) (by kernel_rfl) rfl rfl ⟨ct BK1 0,ct BK1 1,ct BK0 0,ct BK0 1⟩ (fun hHeld=>?_);refine with_tabW carrefourref02_Add.tab6 carrefourref02_Add.bits6 (fun HT_ HW_=>?_)
 generalize w76.drew=w77 at HO0 HO1 BK0 BK1 BK2 HB hHeld ⊢
 refine pu_ 0 (some 43) (m_ 9 1) rfl rfl (ao HT_) ?_
 refine pu_ 3 (some 46) (m_ 9 9) rfl rfl (ao HT_) ?_
 refine tk_ 1 (some 44) (m_ 9 11) rfl rfl (tw HT_ HW_) hHeld ?_
 refine tk_ 4 (some 47) (m_ 9 27) rfl rfl (tw HT_ HW_) hHeld ?_
 refine pu_ 5 (some 48) (m_ 9 59) rfl rfl (ao HT_) ?_
 refine o1_ 2 (some 45) (m_ 9 63) rfl rfl (oo HT_) (fun K hK=>?_)
 refine gs_ rfl Tryd.func30 (carrefourref01_Size.calls _ _ _ A6.out) ag ?_
 rintro w' ⟨nd,rfl⟩
 refine hK.out _ _ ⟨ct BK1 0,ct BK1 1,ct BK0 0,ct BK0 1⟩ (fun hHeld=>?_)
 clear hK K
 refine nr_ (some 45) ?_
 refine o1_ 6 (some 49) (m_ 9 127) rfl rfl (oo HT_) (fun K hK=>?_)
 refine goes_ Tryd.func29 (by kernel_rfl) rfl #[.int .u64 t4,.int .u64 (IntKind.u64.wrap (t17))] (by rfl) rfl rfl ag ?_
 with_reducible refine (carrefourref01_Times.calls _ _ (IntKind.u64.wrap (t17)) _ _ A8.out).mono ?_
 rintro e w78 ⟨v2,rfl,ho0,hb⟩
 refine ⟨_,rfl,?_⟩
 have HO2:=am (Kd.R_lower (Kd.R_new' (Kd.R_new' ho0 (rl HO0)) (rl HO1)) (below_size (bf HB)))
 replace HO0:=re_ HO0 (Kd.R_base ho0) hb
 replace HO1:=re_ HO1 (Kd.R_base ho0) hb
 replace BK0:=bb BK0 hb
 replace BK1:=bb BK1 hb
 replace BK2:=bb BK2 hb
 replace HB:=bs HB hb
 (try clear hb);(try clear ho0)
 obtain ⟨Ao17,co17,eo17⟩:=Kd.R_slice HO2.out
 (first|subst eo17|(injection eo17 with f1_ f2_ f3_;have f4_:=f1_.symm;have f5_:=f3_.symm;clear f1_ f2_ f3_;subst f4_;subst f5_))
 refine hK.out _ _ ⟨ct BK1 0,ct BK1 1,ct BK0 0,ct BK0 1⟩ (fun hHeld=>?_)
 clear hK K
 refine nr_ (some 49) ?_
 refine o1_ 7 (some 50) (m_ 9 255) rfl rfl (oo HT_) (fun K hK=>?_)
 refine goes_ Tryd.func28 (by kernel_rfl) rfl #[.slice Ao17 t5.length co17] (by rfl) rfl rfl ag ?_
 with_reducible refine (carrefourref02_trim.calls _ _ _ _ _ _ ?side1 ?side2 A9.out).mono ?_
 (case side1=>exact rc HO2)
 (case side2=>exact (Kd.R_reads' HO2.out).2.1)
 rintro e w79 ⟨v3,rfl,ho0,hb⟩
 refine ⟨_,rfl,?_⟩
 have HO3:=am (Kd.R_lower (Kd.R_new' (Kd.R_new' (Kd.R_new' ho0 (rl HO0)) (rl HO1)) (rl HO2)) (below_size (bf HB)))
 replace HO0:=re_ HO0 (Kd.R_base ho0) hb
 replace HO1:=re_ HO1 (Kd.R_base ho0) hb
 replace HO2:=re_ HO2 (Kd.R_base ho0) hb
 replace BK0:=bb BK0 hb
 replace BK1:=bb BK1 hb
 replace BK2:=bb BK2 hb
 replace HB:=bs HB hb
 (try clear hb);(try clear ho0)
 refine hK.out _ _ ⟨ct BK1 0,ct BK1 1,ct BK0 0,ct BK0 1⟩ (fun hHeld=>?_)
 clear hK K
 refine nr_ (some 50) ?_
 refine pu_ 8 (some 7) (m_ 9 511) rfl rfl (ao HT_) ?_
 refine done_ (done_of HT_.out (by kernel_rfl)) ?_
 have hcz39:=X.k2 BK0
 have hcz40:=X.k2 BK1
 try go_wp2_with (first|((with_reducible refine gc 29 rfl ?_);refine gl_ (some 57) rfl rfl Tryd.func29 ((carrefourref01_Times.calls _ (IntKind.u64.wrap (t17)) (IntKind.u64.wrap (t19)) _ _ A32.out).mono ?_) ag;rintro e w80 ⟨v4,rfl,ho0,hb⟩;refine ⟨_,rfl,?_⟩;have HO4:=am (Kd.R_lower (Kd.R_new' (Kd.R_new' (Kd.R_new' (Kd.R_new' ho0 (rl HO0)) (rl HO1)) (rl HO2)) (rl HO3)) (below_size (bf HB)));replace HO0:=re_ HO0 (Kd.R_base ho0) hb;replace HO1:=re_ HO1 (Kd.R_base ho0) hb;replace HO2:=re_ HO2 (Kd.R_base ho0) hb;replace HO3:=re_ HO3 (Kd.R_base ho0) hb;replace BK0:=bb BK0 hb;replace BK1:=bb BK1 hb;replace BK2:=bb BK2 hb;replace HB:=bs HB hb;(try clear hb);(try clear ho0);obtain ⟨Ao18,co18,eo18⟩:=Kd.R_slice HO4.out;subst eo18)|((with_reducible refine gc 28 rfl ?_);refine gl_ (some 58) rfl rfl Tryd.func28 ((carrefourref02_trim.calls _ _ _ _ _ _ ?side1 ?side2 A33.out).mono ?_) ag;(case side1=>exact rc HO4);(case side2=>exact (Kd.R_reads' HO4.out).2.1);rintro e w81 ⟨v5,rfl,ho0,hb⟩;refine ⟨_,rfl,?_⟩;have HO5:=am (Kd.R_lower (Kd.R_new' (Kd.R_new' (Kd.R_new' (Kd.R_new' (Kd.R_new' ho0 (rl HO0)) (rl HO1)) (rl HO2)) (rl HO3)) (rl HO4)) (below_size (bf HB)));replace HO0:=re_ HO0 (Kd.R_base ho0) hb;replace HO1:=re_ HO1 (Kd.R_base ho0) hb;replace HO2:=re_ HO2 (Kd.R_base ho0) hb;replace HO3:=re_ HO3 (Kd.R_base ho0) hb;replace HO4:=re_ HO4 (Kd.R_base ho0) hb;replace BK0:=bb BK0 hb;replace BK1:=bb BK1 hb;replace BK2:=bb BK2 hb;replace HB:=bs HB hb;(try clear hb);(try clear ho0);have hcz41:=X.k2 BK0;have hcz42:=X.k2 BK1;obtain ⟨Ao19,co19,eo19⟩:=Kd.R_slice HO1.out;subst eo19;obtain ⟨Ao20,co20,eo20⟩:=Kd.R_slice HO3.out;subst eo20)|((with_reducible refine gc 33 rfl ?_);refine gm_ (some 79) rfl rfl Tryd.func33 (carrefourref01_Order.calls _ _ _ _ _ _ _ _ _ ?side1 ?side2 ?side3 ?side4 A78.out) ag ?_;(case side1=>exact rc HO1);(case side2=>exact (Kd.R_reads' HO1.out).2.1);(case side3=>exact rc HO3);(case side4=>exact (Kd.R_reads' HO3.out).2.1);intro w82 hb;replace HO0:=rb HO0 hb;replace HO1:=rb HO1 hb;replace HO2:=rb HO2 hb;replace HO3:=rb HO3 hb;replace HO4:=rb HO4 hb;replace HO5:=rb HO5 hb;replace BK0:=bb BK0 hb;replace BK1:=bb BK1 hb;replace BK2:=bb BK2 hb;replace HB:=bs HB hb;(try clear hb)))
 replace HO0:=am (Kd.R_drew HO0.out)
 replace HO1:=am (Kd.R_drew HO1.out)
 replace HO2:=am (Kd.R_drew HO2.out)
 replace HO3:=am (Kd.R_drew HO3.out)
 replace HO4:=am (Kd.R_drew HO4.out)
 replace HO5:=am (Kd.R_drew HO5.out)
 replace BK0:=am (blk_drew BK0.out)
 replace BK1:=am (blk_drew BK1.out)
 replace BK2:=am (blk_drew BK2.out)
 replace HB:=am (below_drew1 HB.out)
 refine start_ (n:=13) (S:=fun w'=>c_ w' gb1 0 (.int .i64 t18)∧c_ w' gb1 1 (.int .i64 t19)) (ds:=[]) (m_ 13 0) (by kernel_rfl) rfl rfl ⟨ct BK1 0,ct BK1 1⟩ (fun hHeld=>?_);refine with_tabW carrefourref02_Add.tab12 carrefourref02_Add.bits12 (fun HT_ HW_=>?_)
 generalize w82.drew=w86 at HO0 HO1 HO2 HO3 HO4 HO5 BK0 BK1 BK2 HB hHeld ⊢
 refine pu_ 0 (some 92) (m_ 13 1) rfl rfl (ao HT_) ?_
 refine pu_ 1 (some 93) (m_ 13 3) rfl rfl (ao HT_) ?_
 refine pu_ 4 (some 96) (m_ 13 19) rfl rfl (ao HT_) ?_
 refine pu_ 5 (some 97) (m_ 13 51) rfl rfl (ao HT_) ?_
 refine tk_ 6 (some 98) (m_ 13 115) rfl rfl (tw HT_ HW_) hHeld ?_
 refine pu_ 7 (some 99) (m_ 13 243) rfl rfl (ao HT_) ?_
 refine o1_ 2 (some 94) (m_ 13 247) rfl rfl (oo HT_) (fun K hK=>?_)
 refine goes_ Tryd.func34 (by kernel_rfl) rfl #[.slice Ao20 t6.length co20,.slice Ao19 t3.length co19] (by rfl) rfl rfl ag ?_
 with_reducible refine (carrefourref01_Minus.calls _ _ _ _ _ _ _ _ _ ?side1 ?side2 ?side3 ?side4 A19.out).mono ?_
 (case side1=>exact rc HO3)
 (case side2=>exact (Kd.R_reads' HO3.out).2.1)
 (case side3=>exact rc HO1)
 (case side4=>exact (Kd.R_reads' HO1.out).2.1)
 rintro e w87 ⟨v10,rfl,ho0,hb⟩
 refine ⟨_,rfl,?_⟩
 have HO10:=am (Kd.R_lower (Kd.R_new' (Kd.R_new' (Kd.R_new' (Kd.R_new' (Kd.R_new' (Kd.R_new' ho0 (rl HO0)) (rl HO1)) (rl HO2)) (rl HO3)) (rl HO4)) (rl HO5)) (below_size (bf HB)))
 replace HO0:=re_ HO0 (Kd.R_base ho0) hb
 replace HO1:=re_ HO1 (Kd.R_base ho0) hb
 replace HO2:=re_ HO2 (Kd.R_base ho0) hb
 replace HO3:=re_ HO3 (Kd.R_base ho0) hb
 replace HO4:=re_ HO4 (Kd.R_base ho0) hb
 replace HO5:=re_ HO5 (Kd.R_base ho0) hb
 replace BK0:=bb BK0 hb
 replace BK1:=bb BK1 hb
 replace BK2:=bb BK2 hb
 replace HB:=bs HB hb
 (try clear hb);(try clear ho0)
 obtain ⟨Ao21,co21,eo21⟩:=Kd.R_slice HO10.out
 (first|subst eo21|(injection eo21 with f1_ f2_ f3_;have f4_:=f1_.symm;have f5_:=f3_.symm;clear f1_ f2_ f3_;subst f4_;subst f5_))
 refine hK.out _ _ ⟨ct BK1 0,ct BK1 1⟩ (fun hHeld=>?_)
 clear hK K
 refine nr_ (some 94) ?_
 refine o1_ 3 (some 95) (m_ 13 255) rfl rfl (oo HT_) (fun K hK=>?_)
 refine goes_ Tryd.func28 (by kernel_rfl) rfl #[.slice Ao21 t14.length co21] (by rfl) rfl rfl ag ?_
 with_reducible refine (carrefourref02_trim.calls _ _ _ _ _ _ ?side1 ?side2 A20.out).mono ?_
 (case side1=>exact rc HO10)
 (case side2=>exact (Kd.R_reads' HO10.out).2.1)
 rintro e w88 ⟨v11,rfl,ho0,hb⟩
 refine ⟨_,rfl,?_⟩
 have HO11:=am (Kd.R_lower (Kd.R_new' (Kd.R_new' (Kd.R_new' (Kd.R_new' (Kd.R_new' (Kd.R_new' (Kd.R_new' ho0 (rl HO0)) (rl HO1)) (rl HO2)) (rl HO3)) (rl HO4)) (rl HO5)) (rl HO10)) (below_size (bf HB)))
 replace HO0:=re_ HO0 (Kd.R_base ho0) hb
 replace HO1:=re_ HO1 (Kd.R_base ho0) hb
 replace HO2:=re_ HO2 (Kd.R_base ho0) hb
 replace HO3:=re_ HO3 (Kd.R_base ho0) hb
 replace HO4:=re_ HO4 (Kd.R_base ho0) hb
 replace HO5:=re_ HO5 (Kd.R_base ho0) hb
 replace HO10:=re_ HO10 (Kd.R_base ho0) hb
 replace BK0:=bb BK0 hb
 replace BK1:=bb BK1 hb
 replace BK2:=bb BK2 hb
 replace HB:=bs HB hb
 (try clear hb);(try clear ho0)
 obtain ⟨Ao22,co22,eo22⟩:=Kd.R_slice HO11.out
 (first|subst eo22|(injection eo22 with f1_ f2_ f3_;have f4_:=f1_.symm;have f5_:=f3_.symm;clear f1_ f2_ f3_;subst f4_;subst f5_))
 obtain ⟨Ao23,co23,eo23⟩:=Kd.R_slice HO5.out
 (first|subst eo23|(injection eo23 with f1_ f2_ f3_;have f4_:=f1_.symm;have f5_:=f3_.symm;clear f1_ f2_ f3_;subst f4_;subst f5_))
 refine hK.out _ _ ⟨ct BK1 0,ct BK1 1⟩ (fun hHeld=>?_)
 clear hK K
 refine nr_ (some 95) ?_
 refine o1_ 8 (some 100) (m_ 13 511) rfl rfl (oo HT_) (fun K hK=>?_)
 refine gs_ rfl Tryd.func31 (carrefourref02_lowest.calls _ (fun k_=>some k_=(.slice Ao22 t15.length co22:Value).ownBlock) _ _ _ (fun k_=>some k_=(.slice Ao23 t8.length co23:Value).ownBlock) _ _ _ (decide (t18<0)) _ _ _ _ ?side1 ?side2 A21.out) ag ?_
 (case side1=>exact Kd.R_V (Kd.R_tight rfl (Kd.R_types (Kd.R_types (Kd.R_types (HO11.out) BK0.out (by decide)) BK1.out (by decide)) BK2.out (by decide))))
 (case side2=>exact Kd.R_V (Kd.R_tight rfl (Kd.R_types (Kd.R_types (Kd.R_types (HO5.out) BK0.out (by decide)) BK1.out (by decide)) BK2.out (by decide))))
 intro w90 hb
 replace HO0:=rb HO0 hb
 replace HO1:=rb HO1 hb
 replace HO2:=rb HO2 hb
 replace HO3:=rb HO3 hb
 replace HO4:=rb HO4 hb
 replace HO5:=rb HO5 hb
 replace HO10:=rb HO10 hb
 replace HO11:=rb HO11 hb
 replace BK1:=bb BK1 hb
 replace BK2:=bb BK2 hb
 replace HB:=bs HB hb
 (try clear hb)
 refine hK.out _ _ ⟨ct BK1 0,ct BK1 1⟩ (fun hHeld=>?_)
 clear hK K
 refine nr_ (some 100) ?_
 refine pu_ 9 (some 101) (m_ 13 1023) rfl rfl (ao HT_) ?_
 refine pu_ 10 (some 102) (m_ 13 2047) rfl rfl (ao HT_) ?_
 refine o1_ 11 (none) (m_ 13 4095) rfl rfl (oo HT_) (fun K hK=>?_)
 have hs4:c_ w90 gb2 0 (.int .i64 0):=ct BK2 0
 have hfs4:=blk_frozen BK2.out 0
 have hns8:=NB2.out
 have hns9:=NB4.out
 have hms8:=NB3.out
 have hms9:=NB5.out
 have hs5:c_ w90 gb2 1 (.int .i64 0):=ct BK2 1
 have hfs5:=blk_frozen BK2.out 1
 have hns10:=NB2.out
 have hns11:=NB4.out
 have hms10:=NB3.out
 have hms11:=NB5.out
 refine skip_ (w1:=?_) (by rfl) rfl ?_ ?_
 rotate_left;{
 go_simp
 rfl}
 refine hK.out _ _ (by obtain ⟨d0,d1⟩:=hHeld;exact ⟨fa_ NB4 (fa_ NB4 d0),fa_ NB4 (fa_ NB4 d1)⟩) (fun hHeld=>?_)
 clear hK K
 refine pu_ 12 (some 5) (m_ 13 8191) rfl rfl (ao HT_) ?_
 refine done_ (done_of HT_.out (by kernel_rfl)) ?_
 try go_wp2
 refine bodyPost_ret (results_ct rfl _ _ gb2 36 #[.int .i64 t29,.int .i64 t30] (0,0) _ rfl (br_ BK2) Tryd.underlying36 rfl (by kernel_rfl)) rfl ?_
 exact ⟨ae,bf HB⟩}}}
end Go.Proofs.YtenphnkiacfmiaaDoor.X
