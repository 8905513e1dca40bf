/- Walks: each '.calls' says that the Go function comes to what its Lean function tells. Conditions: as each theorem's head says. -/
import Derived.Test.YtenphnkiacfmiaaDoorXD
import Derived.Test.YtenphnkiacfmiaaDoorX0
import Derived.Test.YtenphnkiacfmiaaDoorX7
import Derived.Test.YtenphnkiacfmiaaDoorX14
namespace Go.Proofs.YtenphnkiacfmiaaDoor.X
open Go.RowKit Go.Proofs.YtenphnkiacfmiaaDoorW.PrintWords Go.Proofs.YtenphnkiacfmiaaDoorW.PrintLast Go.Proofs.YtenphnkiacfmiaaDoorW.PrintMore
attribute [local go_sem] max2_int min2_int max_two min_two max_three min_three max_four min_four
set_option linter.unusedVariables false
set_option maxHeartbeats 8000000
set_option maxRecDepth 100000
set_option linter.unusedSimpArgs false
theorem frac_Cmp.calls (k:Nat) (a0:Int) (a1:Int) (a2:Int) (a3:Int) (r:Int) (w:World) (h:frac_Cmp.f k a0 a1 a2 a3=some r) (hT:TabOK w) :
  Calls Tryd.prog 40 #[.agg #[.int .i64 a0,.int .i64 a1],.agg #[.int .i64 a2,.int .i64 a3]] w fun e w'=>e=.returned (.int .i64 r)∧Below w.heap.size w w':=by
 have GT:=am hT
 clear hT
 have hu0:=Tryd.underlying36
 have HB:=am (Below.refl w.heap.size w)
 have H:((frac_norm.f k a0 a1).bind fun bt0=>((frac_norm.f k a2 a3).bind fun bt1=>((whole_Compare.f k bt0.1 bt1.2 bt1.1 bt0.2).bind fun t0=>(some t0))))=some r:=h
 clear h
 replace H:=bi_ H;obtain ⟨⟨t1,t2⟩,A3,H⟩:=H
 (try dsimp only at H)
 replace H:=bi_ H;obtain ⟨⟨t3,t4⟩,A4,H⟩:=H
 (try dsimp only at H)
 replace H:=bi_ H;obtain ⟨t0,A5,H⟩:=H
 (try dsimp only at H)
 obtain rfl:=Option.some.inj H
 go_enter Tryd.func40,Tryd.ntmps40
 try go_wp2_with (first|((with_reducible refine gd 2 rfl ?_);refine bx_ 2 36 #[.int .i64 a0,.int .i64 a1] rfl rfl ?_;intro gb0 hg w6 BK0 hb;have GE0:=bz HB hg;replace HB:=bs HB hb;clear hb hg)|((with_reducible refine gd 3 rfl ?_);refine bx_ 3 36 #[.int .i64 a2,.int .i64 a3] rfl rfl ?_;intro gb1 hg w7 BK1 hb;have GE1:=bz HB hg;have ⟨NB0,NB1⟩:=nb BK0 hg;replace BK0:=bb BK0 hb;replace HB:=bs HB hb;clear hb hg))
 replace BK0:=am (blk_drew BK0.out)
 replace BK1:=am (blk_drew BK1.out)
 replace HB:=am (below_drew1 HB.out)
 refine start_ (n:=6) (S:=fun w'=>c_ w' gb0 0 (.int .i64 a0)∧c_ w' gb0 1 (.int .i64 a1)∧c_ w' gb1 0 (.int .i64 a2)∧c_ w' gb1 1 (.int .i64 a3)) (ds:=[4,5]) (m_ 6 0) (by kernel_rfl) rfl rfl ⟨ct BK0 0,ct BK0 1,ct BK1 0,ct BK1 1⟩ (fun hHeld=>?_)
 generalize w7.drew=w8 at BK0 BK1 HB hHeld ⊢
 refine tk_ 0 (some 5) (m_ 6 1) rfl rfl (by kernel_rfl) hHeld ?_
 refine tk_ 2 (some 7) (m_ 6 5) rfl rfl (by kernel_rfl) hHeld ?_
 refine o1_ 1 (some 6) (m_ 6 7) rfl rfl (by kernel_rfl) (fun K hK=>?_)
 refine gs_ rfl Tryd.func50 (frac_norm.calls _ _ _ _ _ _ A3.out (tt GT)) ag ?_
 intro w9 hb
 replace BK0:=bb BK0 hb
 replace BK1:=bb BK1 hb
 replace HB:=bs HB hb
 (try clear hb)
 refine hK.out _ _ ⟨ct BK0 0,ct BK0 1,ct BK1 0,ct BK1 1⟩ (fun hHeld=>?_)
 clear hK K
 refine nr_ (some 6) ?_
 refine o1_ 3 (some 8) (m_ 6 15) rfl rfl (by kernel_rfl) (fun K hK=>?_)
 refine gs_ rfl Tryd.func50 (frac_norm.calls _ _ _ _ _ _ A4.out (tt GT)) ag ?_
 intro w0 hb
 replace BK0:=bb BK0 hb
 replace BK1:=bb BK1 hb
 replace HB:=bs HB hb
 (try clear hb)
 refine hK.out _ _ ⟨ct BK0 0,ct BK0 1,ct BK1 0,ct BK1 1⟩ (fun hHeld=>?_)
 clear hK K
 refine nr_ (some 8) ?_
 refine last_ (i:=4) (N:=none) (m_ 6 31) rfl rfl (by kernel_rfl) (by decide) (fun K hK=>?_)
 have hs0:c_ w0 gb0 0 (.int .i64 a0):=ct BK0 0
 have hfs0:=blk_frozen BK0.out 0
 have hns0:=nn NB1
 have hs1:c_ w0 gb0 1 (.int .i64 a1):=ct BK0 1
 have hfs1:=blk_frozen BK0.out 1
 have hns1:=nn NB1
 refine skip_ (w1:=?_) (by rfl) rfl ?_ ?_
 rotate_left;{
 go_simp
 rfl}
 refine hK.out _ _ ?_
 clear hK K
 refine last_ (i:=5) (N:=none) (m_ 6 63) rfl rfl (by kernel_rfl) (by decide) (fun K hK=>?_)
 have hs2:c_ w0 gb1 0 (.int .i64 a2):=ct BK1 0
 have hfs2:=blk_frozen BK1.out 0
 have hns2:=nn NB0
 have hs3:c_ w0 gb1 1 (.int .i64 a3):=ct BK1 1
 have hfs3:=blk_frozen BK1.out 1
 have hns3:=nn NB0
 refine skip_ (w1:=?_) (by rfl) rfl ?_ ?_
 rotate_left;{
 go_simp
 rfl}
 refine hK.out _ _ ?_
 clear hK K
 refine done_ (by kernel_rfl) ?_
 have hnb0:=nn NB0
 have hcz0:=X.k2 BK0
 have hcz1:=X.k2 BK1
 try go_wp2_with (first|((with_reducible refine gc 51 rfl ?_);refine gm_ (some 17) rfl rfl Tryd.func51 (whole_Compare.calls _ _ _ _ _ _ _ A5.out) ag ?_;intro w2 hb;replace BK0:=bp_ #[.int .i64 t1,.int .i64 t2] BK0 hb;replace BK1:=bp_ #[.int .i64 t3,.int .i64 t4] BK1 hb;replace HB:=bs HB hb;(try clear hb)))
 go_ret
 exact ⟨ae,bf HB⟩
theorem crit_greatest.calls (k:Nat) (A0:Option Addr) (c0:Nat) (l0:List (S36)) (r:Int) (w:World) (hr0:Kd.C k36 w A0 l0.length l0) (hc0:l0.length≤c0) (h:crit_greatest.f k l0=some r) (hT:TabOK w) :
  Calls Tryd.prog 21 #[.slice A0 l0.length c0] w fun e w'=>e=.returned (.int .i64 r)∧Below w.heap.size w w':=by
 have GT:=am hT
 clear hT
 have hu0:=Tryd.underlying36
 have HR0:=am hr0
 have HC0:=am hc0
 clear hr0 hc0
 have HB:=am (Below.refl w.heap.size w)
 have H:(crit_greatest.l0 k l0 0 l0 (l0.length:Int) 0)=some r:=h
 clear h
 have H':=am H
 clear H
 go_enter Tryd.func21,Tryd.ntmps21
 go_wp2
 go_loopg [3,8] k (fun kq v3 v8 w'=>∃ (x0:Int) (x1:Int),v3=.int .i64 x0∧v8=.int .i64 x1∧Aside0 (crit_greatest.l0 kq l0 x0 l0 (l0.length:Int) x1=some r)∧Aside0 (kq≤k)∧Aside0 (Below w.heap.size w w'))
 case atStart=>exact ⟨(0),(0),(aq),(aq),H',⟨Nat.le_refl _⟩,⟨bf HB⟩⟩
 case round =>skip;{
 clear H'
 obtain ⟨x0,x1,rfl,rfl,HA,HK1,HB⟩:=hrel
 cases gk with
 | zero=>exact absurd HA.out (by simp [crit_greatest.l0])
 | succ k1 =>skip;{
 have H:=HA.out
 clear HA
 simp only [crit_greatest.l0] at H
 by_cases c2:x1<(l0.length:Int);{
 rw [if_pos c2] at H
 have c1:decide (x1<(l0.length:Int))=true:=decide_eq_true c2
 clear c2
 by_cases c3:0≤x1;{
 rw [if_pos c3] at H
 have c7:decide (0≤x1)=true:=decide_eq_true c3
 clear c3
 by_cases c4:x1<(l0.length:Int);{
 rw [if_pos c4] at H
 have c9:decide (x1<(l0.length:Int))=true:=decide_eq_true c4
 clear c4
 by_cases c5:0≤x0;{
 rw [if_pos c5] at H
 have c10:decide (0≤x0)=true:=decide_eq_true c5
 clear c5
 by_cases c6:x0<(l0.length:Int);{
 rw [if_pos c6] at H
 have c11:decide (x0<(l0.length:Int))=true:=decide_eq_true c6
 clear c6
 replace H:=bi_ H;obtain ⟨t0,A7,H⟩:=H
 (try dsimp only at H)
 by_cases c8:t0>0;{
 rw [if_pos c8] at H
 have c12:decide (0<t0)=true:=decide_eq_true c8
 clear c8
 have H':=am H
 clear H
 have p0:0≤(x1:Int):=od_
 have q0:x1<(l0.length:Int):=od_
 obtain ⟨ad0,e0,hx0,hx1⟩:=at_T36 HR0.out x1 p0 q0
 cases e0
 replace hx0:=hx_ HB hx0
 replace hx1:=hx_ HB hx1
 replace p0:=eq_true p0
 replace q0:=eq_true q0
 try go_wp2_with (first|((with_reducible refine gd 5 rfl ?_);refine bx_ 5 36 #[.int .i64 0,.int .i64 0] rfl rfl ?_;intro gb0 hg w9 BK0 hb;have GE0:=bz HB hg;replace HB:=bs HB hb;clear hb hg;have hcz0:=X.k2 BK0))
 have n0:Aside0 (((w9.setCell ⟨gb0,0,none⟩ (.int .i64 ((rd_T36 l0 x1).f0))).setCell ⟨gb0,1,none⟩ (.int .i64 ((rd_T36 l0 x1).f1))).heap[gb0]?=some (.cells #[.int .i64 ((rd_T36 l0 x1).f0),.int .i64 ((rd_T36 l0 x1).f1)] 36 (0,0))):=bq_ BK0
 have n1:Aside0 (Below w.heap.size w ((w9.setCell ⟨gb0,0,none⟩ (.int .i64 ((rd_T36 l0 x1).f0))).setCell ⟨gb0,1,none⟩ (.int .i64 ((rd_T36 l0 x1).f1)))):=⟨bf HB⟩
 (try clear BK0);(try clear HB)
 generalize ((w9.setCell ⟨gb0,0,none⟩ (.int .i64 ((rd_T36 l0 x1).f0))).setCell ⟨gb0,1,none⟩ (.int .i64 ((rd_T36 l0 x1).f1)))=w0 at n0 n1 ⊢
 have BK0:=n0
 have HB:=n1
 clear n0 n1
 replace BK0:=am (blk_drew BK0.out)
 replace HB:=am (below_drew1 HB.out)
 have p1:0≤(x0:Int):=od_
 have q1:x0<(l0.length:Int):=od_
 obtain ⟨ad1,e1,hx2,hx3⟩:=at_T36 HR0.out x0 p1 q1
 have hw0:=hx3
 have hw1:=hx2
 obtain rfl:ad0=ad1:=(by injection e1)
 replace hx2:=hx_ HB hx2
 replace hx3:=hx_ HB hx3
 replace p1:=eq_true p1
 replace q1:=eq_true q1
 refine start_ (n:=7) (S:=fun w'=>c_ w' gb0 0 (.int .i64 ((rd_T36 l0 x1).f0))∧c_ w' gb0 1 (.int .i64 ((rd_T36 l0 x1).f1))∧w'.cell? (ad0.add ((x0).toNat*2))=some (.int .i64 ((rd_T36 l0 x0).f0))∧w'.cell? ⟨(ad0.add ((x0).toNat*2)).block,(ad0.add ((x0).toNat*2)).off+1,none⟩=some (.int .i64 ((rd_T36 l0 x0).f1))) (ds:=[]) (m_ 7 0) (by kernel_rfl) rfl rfl ⟨ct BK0 0,ct BK0 1,(hx_ HB hw1 :),(hx_ HB hw0 :)⟩ (fun hHeld=>?_)
 generalize w0.drew=w1 at BK0 HB hx2 hx3 hHeld ⊢
 refine pu_ 1 (some 14) (m_ 7 2) rfl rfl (by kernel_rfl) ?_
 refine pu_ 2 (some 15) (m_ 7 6) rfl rfl (by kernel_rfl) ?_
 refine pu_ 3 (some 16) (m_ 7 14) rfl rfl (by kernel_rfl) ?_
 refine tk_ 0 (some 13) (m_ 7 15) rfl rfl (by kernel_rfl) hHeld ?_
 refine tk_ 4 (some 17) (m_ 7 31) rfl rfl (by kernel_rfl) hHeld ?_
 refine o1_ 5 (some 18) (m_ 7 63) rfl rfl (by kernel_rfl) (fun K hK=>?_)
 refine gs_ rfl Tryd.func40 (frac_Cmp.calls _ ((rd_T36 l0 x1).f0) ((rd_T36 l0 x1).f1) ((rd_T36 l0 x0).f0) ((rd_T36 l0 x0).f1) _ _ A7.out (tt GT)) ag ?_
 intro w2 hb
 replace BK0:=bb BK0 hb
 replace HB:=bs HB hb
 (try clear hb)
 refine hK.out _ _ ⟨ct BK0 0,ct BK0 1,(hx_ HB hw1 :),(hx_ HB hw0 :)⟩ (fun hHeld=>?_)
 clear hK K
 refine nr_ (some 18) ?_
 refine pu_ 6 (some 19) (m_ 7 127) rfl rfl (by kernel_rfl) ?_
 refine done_ (by kernel_rfl) ?_
 try go_wp2
 go_roundg k1
 case measure=>have:=HK1.out;omega
 case rel=>exact ⟨(x1),(wrap64 (x1+1)),(aq),(aq),H',⟨by have:=HK1.out;omega⟩,⟨bf HB⟩⟩};{
 rw [if_neg c8] at H
 have c12:decide (0<t0)=false:=decide_eq_false c8
 clear c8
 have H':=am H
 clear H
 have p0:0≤(x1:Int):=od_
 have q0:x1<(l0.length:Int):=od_
 obtain ⟨ad0,e0,hx0,hx1⟩:=at_T36 HR0.out x1 p0 q0
 cases e0
 replace hx0:=hx_ HB hx0
 replace hx1:=hx_ HB hx1
 replace p0:=eq_true p0
 replace q0:=eq_true q0
 try go_wp2_with (first|((with_reducible refine gd 5 rfl ?_);refine bx_ 5 36 #[.int .i64 0,.int .i64 0] rfl rfl ?_;intro gb0 hg w3 BK0 hb;have GE0:=bz HB hg;replace HB:=bs HB hb;clear hb hg;have hcz1:=X.k2 BK0))
 have n0:Aside0 (((w3.setCell ⟨gb0,0,none⟩ (.int .i64 ((rd_T36 l0 x1).f0))).setCell ⟨gb0,1,none⟩ (.int .i64 ((rd_T36 l0 x1).f1))).heap[gb0]?=some (.cells #[.int .i64 ((rd_T36 l0 x1).f0),.int .i64 ((rd_T36 l0 x1).f1)] 36 (0,0))):=bq_ BK0
 have n1:Aside0 (Below w.heap.size w ((w3.setCell ⟨gb0,0,none⟩ (.int .i64 ((rd_T36 l0 x1).f0))).setCell ⟨gb0,1,none⟩ (.int .i64 ((rd_T36 l0 x1).f1)))):=⟨bf HB⟩
 (try clear BK0);(try clear HB)
 generalize ((w3.setCell ⟨gb0,0,none⟩ (.int .i64 ((rd_T36 l0 x1).f0))).setCell ⟨gb0,1,none⟩ (.int .i64 ((rd_T36 l0 x1).f1)))=w4 at n0 n1 ⊢
 have BK0:=n0
 have HB:=n1
 clear n0 n1
 replace BK0:=am (blk_drew BK0.out)
 replace HB:=am (below_drew1 HB.out)
 have p1:0≤(x0:Int):=od_
 have q1:x0<(l0.length:Int):=od_
 obtain ⟨ad1,e1,hx2,hx3⟩:=at_T36 HR0.out x0 p1 q1
 have hw0:=hx3
 have hw1:=hx2
 obtain rfl:ad0=ad1:=(by injection e1)
 replace hx2:=hx_ HB hx2
 replace hx3:=hx_ HB hx3
 replace p1:=eq_true p1
 replace q1:=eq_true q1
 refine start_ (n:=7) (S:=fun w'=>c_ w' gb0 0 (.int .i64 ((rd_T36 l0 x1).f0))∧c_ w' gb0 1 (.int .i64 ((rd_T36 l0 x1).f1))∧w'.cell? (ad0.add ((x0).toNat*2))=some (.int .i64 ((rd_T36 l0 x0).f0))∧w'.cell? ⟨(ad0.add ((x0).toNat*2)).block,(ad0.add ((x0).toNat*2)).off+1,none⟩=some (.int .i64 ((rd_T36 l0 x0).f1))) (ds:=[]) (m_ 7 0) (by kernel_rfl) rfl rfl ⟨ct BK0 0,ct BK0 1,(hx_ HB hw1 :),(hx_ HB hw0 :)⟩ (fun hHeld=>?_)
 generalize w4.drew=w5 at BK0 HB hx2 hx3 hHeld ⊢
 refine pu_ 1 (some 14) (m_ 7 2) rfl rfl (by kernel_rfl) ?_
 refine pu_ 2 (some 15) (m_ 7 6) rfl rfl (by kernel_rfl) ?_
 refine pu_ 3 (some 16) (m_ 7 14) rfl rfl (by kernel_rfl) ?_
 refine tk_ 0 (some 13) (m_ 7 15) rfl rfl (by kernel_rfl) hHeld ?_
 refine tk_ 4 (some 17) (m_ 7 31) rfl rfl (by kernel_rfl) hHeld ?_
 refine o1_ 5 (some 18) (m_ 7 63) rfl rfl (by kernel_rfl) (fun K hK=>?_)
 refine gs_ rfl Tryd.func40 (frac_Cmp.calls _ ((rd_T36 l0 x1).f0) ((rd_T36 l0 x1).f1) ((rd_T36 l0 x0).f0) ((rd_T36 l0 x0).f1) _ _ A7.out (tt GT)) ag ?_
 intro w6 hb
 replace BK0:=bb BK0 hb
 replace HB:=bs HB hb
 (try clear hb)
 refine hK.out _ _ ⟨ct BK0 0,ct BK0 1,(hx_ HB hw1 :),(hx_ HB hw0 :)⟩ (fun hHeld=>?_)
 clear hK K
 refine nr_ (some 18) ?_
 refine pu_ 6 (some 19) (m_ 7 127) rfl rfl (by kernel_rfl) ?_
 refine done_ (by kernel_rfl) ?_
 try go_wp2
 go_roundg k1
 case measure=>have:=HK1.out;omega
 case rel=>exact ⟨(x0),(wrap64 (x1+1)),(aq),(aq),H',⟨by have:=HK1.out;omega⟩,⟨bf HB⟩⟩}};{
 rw [if_neg c6] at H
 exact absurd H (by simp)}};{
 rw [if_neg c5] at H
 exact absurd H (by simp)}};{
 rw [if_neg c4] at H
 exact absurd H (by simp)}};{
 rw [if_neg c3] at H
 exact absurd H (by simp)}};{
 rw [if_neg c2] at H
 have c1:decide (x1<(l0.length:Int))=false:=decide_eq_false c2
 clear c2
 obtain rfl:=Option.some.inj H
 go_wp2
 go_ret
 exact ⟨ae,bf HB⟩}}}
theorem slices_IndexFunc_Group.calls (K : Nat) (fn : Func) (cap : Array Value) (hf : Tryd.prog.funcs[K]? = some fn) (hname : (fn.name == "runtime.NumGoroutine") = false) (hbd : fn.body.isSome = true) (p : S33 → Bool) (A : Option Addr) (c0 : Nat) (l : List S33) (w : World)
  (hr:Kd.C k33 w A l.length l) (hm:l.length≤1000000000)
  (hdo:∀ (x:S33) (A0:Option Addr) (n0:Nat) (w1:World),x∈l→Below w.heap.size w w1→Calls Tryd.prog K (#[.agg #[.slice A0 x.f0.length n0]]++cap) w1 fun e w'=>e=.returned (.bool (p x))∧Below w1.heap.size w1 w') :
  Calls Tryd.prog 39 #[.slice A l.length c0,.func (.func K) #[] cap] w fun e w'=>e=.returned (.int .i64 (idxA p l))∧Below w.heap.size w w':=by
 have hu:=Tryd.underlying33
 have HR:=am hr
 have HM:=am hm
 have HD:=am hdo
 have HF:=am hf
 have HN:=am hname
 have HY:=am hbd
 clear hr hm hdo hf hname hbd
 have HB:=am (Below.refl w.heap.size w)
 go_enter Tryd.func39,Tryd.ntmps39
 go_wp2
 go_loopg [8] (l.length+1) (fun kq v8 w'=>∃ x:Int,v8=.int .i64 x∧Aside0 (0≤x∧x+kq=l.length+1∧x≤l.length∧(∀ j:Nat,(j:Int)<x→p (l.getD j z33)=false))∧Aside0 (Below w.heap.size w w'))
 case atStart=>exact ⟨0,(aq),⟨⟨by omega,by omega,by omega,fun j hj=>by omega⟩⟩,⟨bf HB⟩⟩
 case round =>
  clear HB
  obtain ⟨x,rfl,HX,HB⟩:=hrel
  cases gk with
  | zero=>exact absurd HX.out (by rintro ⟨_,_,_,_⟩;omega)
  | succ k1 =>
   by_cases c:x<(l.length:Int)
   ·have c1:decide (x<(l.length:Int))=true:=decide_eq_true c
    have p0:=HX.out.1
    have HE:=am (show rd_T33 l x∈l from getD_mem (d:=z33) p0 c)
    obtain ⟨ad,A0,n0,ea_,hx0,hl0,hi0⟩:=at_T33 (Kd.C_below HR.out HB.out) x p0 c
    cases ea_
    have HW:=am (⟨by have:=HM.out;unfold wrap64;omega,by omega⟩:wrap64 (x+1)=x+1∧x+1≤l.length)
    obtain ⟨b,hp⟩:∃ b,p (rd_T33 l x)=b:=⟨_,rfl⟩
    cases b
    ·have HP:=am hp
     clear hp
     replace p0:=eq_true p0
     replace c:=eq_true c
     go_wp2_with (first|((with_reducible refine gate_tmp rfl ?_);refine goesC_ (some 16) rfl rfl HF.out HN.out HY.out #[.agg #[.slice A0 (rd_T33 l x).f0.length n0]] cap rfl ag rfl ?_;refine (HD.out _ A0 n0 _ HE.out (bf HB)).mono ?_;rintro e w3 ⟨he,hb⟩;rw [HP.out] at he;subst he;refine ⟨_,rfl,?_⟩;replace HB:=bs HB hb;clear hb))
     go_roundg k1
     case measure=>omega
     case rel=>exact ⟨wrap64 (x+1),(aq),⟨by
      obtain ⟨a1,a2,a3,a4⟩:=HX.out
      rw [HW.out.1]
      exact ⟨by omega,by omega,HW.out.2,fun j hj=>by
       by_cases e:(j:Int)<x
       ·exact a4 j e
       ·have:(j:Int)=x:=by omega
        have h2:=HP.out
        unfold rd_T33 at h2
        rwa [← this,Int.toNat_natCast] at h2⟩⟩,⟨bf HB⟩⟩
    ·have HI:=am (idxA_at (d:=z33) p0 c HX.out.2.2.2 hp)
     have HP:=am hp
     clear hp
     replace p0:=eq_true p0
     replace c:=eq_true c
     go_wp2_with (first|((with_reducible refine gate_tmp rfl ?_);refine goesC_ (some 16) rfl rfl HF.out HN.out HY.out #[.agg #[.slice A0 (rd_T33 l x).f0.length n0]] cap rfl ag rfl ?_;refine (HD.out _ A0 n0 _ HE.out (bf HB)).mono ?_;rintro e w3 ⟨he,hb⟩;rw [HP.out] at he;subst he;refine ⟨_,rfl,?_⟩;replace HB:=bs HB hb;clear hb))
     go_ret
     exact ⟨by rw [HI.out];rfl,bf HB⟩
   ·have HI:=am (idxA_none (d:=z33) c HX.out.2.2.2)
    have c1:decide (x<(l.length:Int))=false:=decide_eq_false c
    clear c
    go_wp2
    go_ret
    exact ⟨by rw [HI.out];rfl,bf HB⟩
theorem crit_Sum_lit.calls (x:S33) (A0:Option Addr) (n0:Nat) (w:World) :
  Calls Tryd.prog 18 #[.agg #[.slice A0 x.f0.length n0]] w fun e w'=>e=.returned (.bool (x.f0.length==0))∧Below w.heap.size w w':=by
 have hu:=Tryd.underlying33
 have HB:=am (Below.refl w.heap.size w)
 have hl:(x.f0.length==0)=(((x.f0.length:Nat):Int)==0):=by
  rw [Bool.eq_iff_iff,beq_iff_eq,beq_iff_eq]
  omega
 rw [hl]
 go_enter Tryd.func18,Tryd.ntmps18
 go_wp2_with (first|((with_reducible refine gd 1 rfl ?_);refine bx_ 1 33 #[.slice A0 x.f0.length n0] rfl rfl ?_;intro gb hg w1 BK2 hb;replace HB:=bs HB hb;clear hb hg;have hcz:=X.k1 BK2))
 go_ret
 exact ⟨ae,bf HB⟩
theorem api_Group_fn18.calls (A0:Option Addr) (c0:Nat) (l0:List (S33)) (r:Bool) (w:World) (hr0:Kd.C k33 w A0 l0.length l0) (hc0:l0.length≤c0) (h:api_Group_fn18.f l0=some r) :
  Calls Tryd.prog 19 #[.slice A0 l0.length c0,.func (.func 18) #[] #[]] w fun e w'=>e=.returned (.bool r)∧Below w.heap.size w w':=by
 have HR:=am hr0
 clear hr0 hc0
 unfold api_Group_fn18.f at h
 by_cases cm:l0.length≤1000000000;{
 rw [if_pos cm] at h
 have HM:=am cm
 have HI:=am (Option.some.inj h)
 clear h cm
 have HG:=am (idxA_ge (fun x:S33=>x.f0.length==0) l0)
 go_enter Tryd.func19,Tryd.ntmps19
 go_wp2_with (first|(go_at_call 39;refine (slices_IndexFunc_Group.calls 18 Tryd.f18 #[] Tryd.func18 (by kernel_rfl) (by kernel_rfl) (fun x=>x.f0.length==0) A0 c0 l0 _ HR.out HM.out (fun x A0 n0 w5 _ _=>crit_Sum_lit.calls x A0 n0 w5)).mono ?_;rintro e w3 ⟨rfl,hb⟩;have HB:=am hb;clear hb))
 go_ret
 exact ⟨by rw [← HI.out,← HG.out];rfl,HB.out⟩};{
 rw [if_neg cm] at h
 cases h}
end Go.Proofs.YtenphnkiacfmiaaDoor.X
