/- Walks: each '.calls' says that the Go function comes to what its Lean function tells. Conditions: as each theorem's head says. -/
import Derived.Test.YtenphnkiacfmiaaDoorXD
import Derived.Test.YtenphnkiacfmiaaDoorX0
import Derived.Test.YtenphnkiacfmiaaDoorX1
import Derived.Test.YtenphnkiacfmiaaDoorX7
import Derived.Test.YtenphnkiacfmiaaDoorX13
namespace Go.Proofs.YtenphnkiacfmiaaDoor.X
open Go.RowKit Go.Proofs.YtenphnkiacfmiaaDoorW.PrintWords Go.Proofs.YtenphnkiacfmiaaDoorW.PrintLast Go.Proofs.YtenphnkiacfmiaaDoorW.PrintMore
attribute [local go_sem] max2_int min2_int max_two min_two max_three min_three max_four min_four
set_option linter.unusedVariables false
set_option maxHeartbeats 8000000
set_option maxRecDepth 100000
set_option linter.unusedSimpArgs false
attribute [local go_sem high] eqA113
theorem frac_Add.calls (k:Nat) (a0:Int) (a1:Int) (a2:Int) (a3:Int) (r1:Int) (r2:Int) (r3:Int) (w:World) (h:frac_Add.f k a0 a1 a2 a3=some (r1,r2,r3)) (hT:TabOK w) :
  Calls Tryd.prog 42 #[.agg #[.int .i64 a0,.int .i64 a1],.agg #[.int .i64 a2,.int .i64 a3]] w fun e w'=>e=.returned (.tuple #[.agg #[.int .i64 r1,.int .i64 r2],.int .i64 r3])∧Below w.heap.size w w':=by
 have GT:=am hT
 clear hT
 have hu0:=Tryd.underlying36
 have HB:=am (Below.refl w.heap.size w)
 have H:((frac_added_fn53.f k a0 a1 a2 a3).bind fun bt0=>(some (bt0.1,bt0.2.1,bt0.2.2)))=some (r1,r2,r3):=h
 clear h
 replace H:=bi_ H;obtain ⟨⟨t0,t1,t2⟩,A3,H⟩:=H
 (try dsimp only at H)
 simp only [Option.some.injEq,Prod.mk.injEq] at H
 obtain ⟨rfl,rfl,rfl⟩:=H
 go_enter Tryd.func42,Tryd.ntmps42
 go_wp2_with (first|((with_reducible refine gd 2 rfl ?_);refine bx_ 2 36 #[.int .i64 a0,.int .i64 a1] rfl rfl ?_;intro gb0 hg w4 BK0 hb;have GE0:=bz HB hg;replace HB:=bs HB hb;clear hb hg)|((with_reducible refine gd 3 rfl ?_);refine bx_ 3 36 #[.int .i64 a2,.int .i64 a3] rfl rfl ?_;intro gb1 hg w5 BK1 hb;have GE1:=bz HB hg;have ⟨NB0,NB1⟩:=nb BK0 hg;replace BK0:=bb BK0 hb;replace HB:=bs HB hb;clear hb hg)|((with_reducible refine gd 4 rfl ?_);refine bx_ 4 36 #[.int .i64 0,.int .i64 0] rfl rfl ?_;intro gb2 hg w6 BK2 hb;have GE2:=bz HB hg;have ⟨NB2,NB3⟩:=nb BK0 hg;have ⟨NB4,NB5⟩:=nb BK1 hg;replace BK0:=bb BK0 hb;replace BK1:=bb BK1 hb;replace HB:=bs HB hb;clear hb hg;have hnb7:=nn NB0;have hnb8:=nn NB2;have hcz9:=X.k2 BK0;have hnb0:=nn NB4;have hcz0:=X.k2 BK1)|((with_reducible refine gc 52 rfl ?_);refine gm_ (some 8) rfl rfl Tryd.func52 (frac_added_fn53.calls _ _ _ _ _ _ _ _ _ A3.out (tt GT)) ag ?_;intro w0 hb;replace BK2:=bb BK2 hb;replace HB:=bs HB hb;(try clear hb);have hcz1:=X.k2 BK2))
 refine bodyPost_ret (results_ct rfl _ _ gb2 36 #[.int .i64 t0,.int .i64 t1] (0,0) _ rfl (br_ BK2) Tryd.underlying36 rfl (by kernel_rfl)) rfl ?_
 exact ⟨ae,bf HB⟩
theorem frac_Sum.calls (k:Nat) (A0:Option Addr) (c0:Nat) (l0:List (S36)) (r1:Int) (r2:Int) (r3:Int) (w:World) (hr0:Kd.C k36 w A0 l0.length l0) (hc0:l0.length≤c0) (h:frac_Sum.f k l0=some (r1,r2,r3)) (hT:TabOK w) :
  Calls Tryd.prog 22 #[.slice A0 l0.length c0] w fun e w'=>e=.returned (.tuple #[.agg #[.int .i64 r1,.int .i64 r2],.int .i64 r3])∧Below w.heap.size w w':=by
 have GT:=am hT
 clear hT
 have hu0:=Tryd.underlying36
 have HR0:=am hr0
 have HC0:=am hc0
 clear hr0 hc0
 have HB:=am (Below.refl w.heap.size w)
 have H:((frac_nought.f).bind fun bt0=>(frac_Sum.l0 k l0 (l0.length:Int) 0 bt0.1 bt0.2))=some (r1,r2,r3):=h
 clear h
 replace H:=bi_ H;obtain ⟨⟨t0,t1⟩,A2,H⟩:=H
 (try dsimp only at H)
 have H':=am H
 clear H
 go_enter Tryd.func22,Tryd.ntmps22
 go_wp2_with (first|((with_reducible refine gd 2 rfl ?_);refine bx_ 2 36 #[.int .i64 0,.int .i64 0] rfl rfl ?_;intro gb0 hg w3 BK0 hb;have GE0:=bz HB hg;replace HB:=bs HB hb;clear hb hg)|((with_reducible refine gc 41 rfl ?_);refine gm_ (some 9) rfl rfl Tryd.func41 (frac_nought.calls _ _ _ A2.out) ag ?_;intro w4 hb;replace BK0:=bb BK0 hb;replace HB:=bs HB hb;(try clear hb))|((with_reducible refine gd 4 rfl ?_);refine bx_ 4 36 #[.int .i64 0,.int .i64 0] rfl rfl ?_;intro gb1 hg w5 BK1 hb;have GE1:=bz HB hg;have ⟨NB0,NB1⟩:=nb BK0 hg;replace BK0:=bb BK0 hb;replace HB:=bs HB hb;clear hb hg;have hnb6:=nn NB1;have hcz7:=X.k2 BK1))
 go_loopg [12] k (fun kq v0 w'=>∃ (x0:Int) (x1:Int) (x2:Int) (x3:Int) (x4:Int),v0=.int .i64 x0∧Aside0 (frac_Sum.l0 kq l0 (l0.length:Int) x0 x3 x4=some (r1,r2,r3))∧Aside0 (kq≤k)∧Aside0 (w'.heap[gb0]?=some (.cells #[.int .i64 x1,.int .i64 x2] 36 (0,0)))∧Aside0 (w'.heap[gb1]?=some (.cells #[.int .i64 x3,.int .i64 x4] 36 (0,0)))∧Aside0 (Below w.heap.size w w'))
 case atStart=>exact ⟨(0),(0),(0),(t0),(t1),(aq),H',⟨Nat.le_refl _⟩,bu_ BK0,bq_ BK1,⟨bf HB⟩⟩
 case round =>skip;{
 clear H'
 (try clear c2);(try clear p2);(try clear c4);(try clear c6);(try clear hcz7)
 obtain ⟨x0,x1,x2,x3,x4,rfl,HA,HK1,BK0,BK1,HB⟩:=hrel
 cases gk with
 | zero=>exact absurd HA.out (by simp [frac_Sum.l0])
 | succ k1 =>skip;{
 have H:=HA.out
 clear HA
 simp only [frac_Sum.l0] at H
 by_cases c8:x0<(l0.length:Int);{
 rw [if_pos c8] at H
 have c1:decide (x0<(l0.length:Int))=true:=decide_eq_true c8
 clear c8
 by_cases c9:0≤x0;{
 rw [if_pos c9] at H
 have c3:decide (0≤x0)=true:=decide_eq_true c9
 clear c9
 by_cases c5:x0<(l0.length:Int);{
 rw [if_pos c5] at H
 have c7:decide (x0<(l0.length:Int))=true:=decide_eq_true c5
 clear c5
 replace H:=bi_ H;obtain ⟨⟨t2,t3,t4⟩,A1,H⟩:=H
 (try dsimp only at H)
 by_cases c12:t4=0;{
 rw [if_pos c12] at H
 have c13:(t4==0)=true:=beq_iff_eq.mpr c12
 have c14:(t4 != 0)=false:=bne_eq_false_iff_eq.mpr c12
 clear c12
 have H':=am H
 clear H
 have p0:0≤(x0:Int):=od_
 have q0:x0<(l0.length:Int):=od_
 obtain ⟨ad0,e0,hx0,hx1⟩:=at_T36 HR0.out x0 p0 q0
 cases e0
 replace hx0:=hx_ HB hx0
 replace hx1:=hx_ HB hx1
 replace p0:=eq_true p0
 replace q0:=eq_true q0
 go_wp2_with (first|((with_reducible refine gd 6 rfl ?_);refine bx_ 6 36 #[.int .i64 0,.int .i64 0] rfl rfl ?_;intro gb2 hg w0 BK2 hb;have GE2:=bz HB hg;have ⟨NB2,NB3⟩:=nb BK0 hg;have ⟨NB4,NB5⟩:=nb BK1 hg;replace BK0:=bb BK0 hb;replace BK1:=bb BK1 hb;replace HB:=bs HB hb;clear hb hg;have hnb0:=nn NB3;have hnb1:=nn NB5;have hcz0:=X.k2 BK2;have hnb2:=nn NB1;have hcz1:=X.k2 BK1)|((with_reducible refine gc 42 rfl ?_);refine gm_ (some 19) rfl rfl Tryd.func42 (frac_Add.calls _ _ _ ((rd_T36 l0 x0).f0) ((rd_T36 l0 x0).f1) _ _ _ _ A1.out (tt GT)) ag ?_;intro w1 hb;replace BK0:=bb BK0 hb;replace BK1:=bb BK1 hb;replace BK2:=bp_ #[.int .i64 ((rd_T36 l0 x0).f0),.int .i64 ((rd_T36 l0 x0).f1)] BK2 hb;replace HB:=bs HB hb;(try clear hb))|((with_reducible refine gd 7 rfl ?_);refine bx_ 7 36 #[.int .i64 0,.int .i64 0] rfl rfl ?_;intro gb3 hg w2 BK3 hb;have GE3:=bz HB hg;have ⟨NB6,NB7⟩:=nb BK0 hg;have ⟨NB8,NB9⟩:=nb BK1 hg;have ⟨NB10,NB11⟩:=nb BK2 hg;replace BK0:=bb BK0 hb;replace BK1:=bb BK1 hb;replace HB:=bs HB hb;clear hb hg;have hnb3:=nn NB7;have hnb4:=nn NB9;have hnb5:=nn NB11;have hcz2:=X.k2 BK3;have hcz3:=X.k2 BK1))
 go_roundg k1
 case measure=>have:=HK1.out;omega
 case rel=>exact ⟨(wrap64 (x0+1)),(x1),(x2),(t2),(t3),(aq),H',⟨by have:=HK1.out;omega⟩,bu_ BK0,bq_ BK1,⟨bf HB⟩⟩};{
 rw [if_neg c12] at H
 have c13:(t4==0)=false:=beq_eq_false_iff_ne.mpr c12
 have c14:(t4 != 0)=true:=bne_iff_ne.mpr c12
 simp only [Option.some.injEq,Prod.mk.injEq] at H
 obtain ⟨rfl,rfl,rfl⟩:=H
 have p0:0≤(x0:Int):=od_
 have q0:x0<(l0.length:Int):=od_
 obtain ⟨ad0,e0,hx0,hx1⟩:=at_T36 HR0.out x0 p0 q0
 cases e0
 replace hx0:=hx_ HB hx0
 replace hx1:=hx_ HB hx1
 replace p0:=eq_true p0
 replace q0:=eq_true q0
 go_wp2_with (first|((with_reducible refine gd 6 rfl ?_);refine bx_ 6 36 #[.int .i64 0,.int .i64 0] rfl rfl ?_;intro gb2 hg w6 BK2 hb;have GE2:=bz HB hg;have ⟨NB2,NB3⟩:=nb BK0 hg;have ⟨NB4,NB5⟩:=nb BK1 hg;replace BK0:=bb BK0 hb;replace BK1:=bb BK1 hb;replace HB:=bs HB hb;clear hb hg;have hnb7:=nn NB3;have hnb8:=nn NB5;have hcz4:=X.k2 BK2;have hnb9:=nn NB1;have hcz5:=X.k2 BK1)|((with_reducible refine gc 42 rfl ?_);refine gm_ (some 19) rfl rfl Tryd.func42 (frac_Add.calls _ _ _ ((rd_T36 l0 x0).f0) ((rd_T36 l0 x0).f1) _ _ _ _ A1.out (tt GT)) ag ?_;intro w7 hb;replace BK0:=bb BK0 hb;replace BK1:=bb BK1 hb;replace BK2:=bp_ #[.int .i64 ((rd_T36 l0 x0).f0),.int .i64 ((rd_T36 l0 x0).f1)] BK2 hb;replace HB:=bs HB hb;(try clear hb))|((with_reducible refine gd 7 rfl ?_);refine bx_ 7 36 #[.int .i64 0,.int .i64 0] rfl rfl ?_;intro gb3 hg w8 BK3 hb;have GE3:=bz HB hg;have ⟨NB6,NB7⟩:=nb BK0 hg;have ⟨NB8,NB9⟩:=nb BK1 hg;have ⟨NB10,NB11⟩:=nb BK2 hg;replace BK0:=bb BK0 hb;replace BK1:=bb BK1 hb;replace HB:=bs HB hb;clear hb hg;have hnb34:=nn NB7;have hnb35:=nn NB9;have hnb36:=nn NB11;have hcz6:=X.k2 BK3;have hcz8:=X.k2 BK0))
 refine bodyPost_ret (results_ct rfl _ _ gb0 36 #[.int .i64 0,.int .i64 0] (0,0) _ rfl (br_ BK0) Tryd.underlying36 rfl (by kernel_rfl)) rfl ?_
 exact ⟨ae,bf HB⟩}};{
 rw [if_neg c5] at H
 exact absurd H (by simp)}};{
 rw [if_neg c9] at H
 exact absurd H (by simp)}};{
 rw [if_neg c8] at H
 have c1:decide (x0<(l0.length:Int))=false:=decide_eq_false c8
 clear c8
 simp only [Option.some.injEq,Prod.mk.injEq] at H
 obtain ⟨rfl,rfl,rfl⟩:=H
 have hnb39:=nn NB1
 have hcz9:=X.k2 BK1
 have hcz41:=X.k2 BK0
 go_wp2
 refine bodyPost_ret (results_ct rfl _ _ gb0 36 #[.int .i64 x3,.int .i64 x4] (0,0) _ rfl (br_ BK0) Tryd.underlying36 rfl (by kernel_rfl)) rfl ?_
 exact ⟨ae,bf HB⟩}}}
theorem slices_IndexFunc_Phase.calls (K : Nat) (fn : Func) (cap : Array Value) (hf : Tryd.prog.funcs[K]? = some fn) (hname : (fn.name == "runtime.NumGoroutine") = false) (hbd : fn.body.isSome = true) (p : S61 → Bool) (A : Option Addr) (c0 : Nat) (l : List S61) (w : World)
  (hr:Kd.C k61 w A l.length l) (hm:l.length≤1000000000)
  (hdo:∀ (x:S61) (A1:Option Addr) (n1:Nat) (w1:World),x∈l→Below w.heap.size w w1→Calls Tryd.prog K (#[.agg #[.string x.f0,.slice A1 x.f1.length n1,.int .i64 x.f2]]++cap) w1 fun e w'=>e=.returned (.bool (p x))∧Below w1.heap.size w1 w') :
  Calls Tryd.prog 48 #[.slice A l.length c0,.func (.func K) #[] cap] w fun e w'=>e=.returned (.int .i64 (idxA p l))∧Below w.heap.size w w':=by
 have hu:=Tryd.underlying61
 have HR:=am hr
 have HM:=am hm
 have HD:=am hdo
 have HF:=am hf
 have HN:=am hname
 have HY:=am hbd
 clear hr hm hdo hf hname hbd
 have HB:=am (Below.refl w.heap.size w)
 go_enter Tryd.func48,Tryd.ntmps48
 go_wp2
 go_loopg [8] (l.length+1) (fun kq v8 w'=>∃ x:Int,v8=.int .i64 x∧Aside0 (0≤x∧x+kq=l.length+1∧x≤l.length∧(∀ j:Nat,(j:Int)<x→p (l.getD j z61)=false))∧Aside0 (Below w.heap.size w w'))
 case atStart=>exact ⟨0,(aq),⟨⟨by omega,by omega,by omega,fun j hj=>by omega⟩⟩,⟨bf HB⟩⟩
 case round =>
  clear HB
  obtain ⟨x,rfl,HX,HB⟩:=hrel
  cases gk with
  | zero=>exact absurd HX.out (by rintro ⟨_,_,_,_⟩;omega)
  | succ k1 =>
   by_cases c:x<(l.length:Int)
   ·have c1:decide (x<(l.length:Int))=true:=decide_eq_true c
    have p0:=HX.out.1
    have HE:=am (show rd_T61 l x∈l from getD_mem (d:=z61) p0 c)
    obtain ⟨ad,A1,n1,ea_,hx0,hx1,hx2,hl0,hi0⟩:=at_T61 (Kd.C_below HR.out HB.out) x p0 c
    cases ea_
    have HW:=am (⟨by have:=HM.out;unfold wrap64;omega,by omega⟩:wrap64 (x+1)=x+1∧x+1≤l.length)
    obtain ⟨b,hp⟩:∃ b,p (rd_T61 l x)=b:=⟨_,rfl⟩
    cases b
    ·have HP:=am hp
     clear hp
     replace p0:=eq_true p0
     replace c:=eq_true c
     go_wp2_with (first|((with_reducible refine gate_tmp rfl ?_);refine goesC_ (some 16) rfl rfl HF.out HN.out HY.out #[.agg #[.string (rd_T61 l x).f0,.slice A1 (rd_T61 l x).f1.length n1,.int .i64 (rd_T61 l x).f2]] cap rfl ag rfl ?_;refine (HD.out _ A1 n1 _ HE.out (bf HB)).mono ?_;rintro e w3 ⟨he,hb⟩;rw [HP.out] at he;subst he;refine ⟨_,rfl,?_⟩;replace HB:=bs HB hb;clear hb))
     go_roundg k1
     case measure=>omega
     case rel=>exact ⟨wrap64 (x+1),(aq),⟨by
      obtain ⟨a1,a2,a3,a4⟩:=HX.out
      rw [HW.out.1]
      exact ⟨by omega,by omega,HW.out.2,fun j hj=>by
       by_cases e:(j:Int)<x
       ·exact a4 j e
       ·have:(j:Int)=x:=by omega
        have h2:=HP.out
        unfold rd_T61 at h2
        rwa [← this,Int.toNat_natCast] at h2⟩⟩,⟨bf HB⟩⟩
    ·have HI:=am (idxA_at (d:=z61) p0 c HX.out.2.2.2 hp)
     have HP:=am hp
     clear hp
     replace p0:=eq_true p0
     replace c:=eq_true c
     go_wp2_with (first|((with_reducible refine gate_tmp rfl ?_);refine goesC_ (some 16) rfl rfl HF.out HN.out HY.out #[.agg #[.string (rd_T61 l x).f0,.slice A1 (rd_T61 l x).f1.length n1,.int .i64 (rd_T61 l x).f2]] cap rfl ag rfl ?_;refine (HD.out _ A1 n1 _ HE.out (bf HB)).mono ?_;rintro e w3 ⟨he,hb⟩;rw [HP.out] at he;subst he;refine ⟨_,rfl,?_⟩;replace HB:=bs HB hb;clear hb))
     go_ret
     exact ⟨by rw [HI.out];rfl,bf HB⟩
   ·have HI:=am (idxA_none (d:=z61) c HX.out.2.2.2)
    have c1:decide (x<(l.length:Int))=false:=decide_eq_false c
    clear c
    go_wp2
    go_ret
    exact ⟨by rw [HI.out];rfl,bf HB⟩
theorem valid_Phase_1.calls (g:Nat) (s:ByteArray) (x:S61) (A1:Option Addr) (n1:Nat) (w:World) (hk:w.heap[g]?=some (.cells #[.string s] 9 (0,0))) :
  Calls Tryd.prog 49 #[.agg #[.string x.f0,.slice A1 x.f1.length n1,.int .i64 x.f2],.pointer (some ⟨g,0,none⟩)] w fun e w'=>e=.returned (.bool (x.f0.toList==s.toList))∧Below w.heap.size w w':=by
 have hu:=Tryd.underlying61
 have BK1:=am hk
 have HB:=am (Below.refl w.heap.size w)
 clear hk
 go_enter Tryd.func49,Tryd.ntmps49
 go_wp2_with (first|((with_reducible refine gd 2 rfl ?_);refine bx_ 2 61 #[.string x.f0,.slice A1 x.f1.length n1,.int .i64 x.f2] rfl rfl ?_;intro gb hg w1 BK2 hb;replace BK1:=bb BK1 hb;replace HB:=bs HB hb;clear hb hg;have hcz:=X.k3 BK2;have hcg:=X.k1 BK1))
 go_ret
 exact ⟨ae,bf HB⟩
theorem valid_Phase.calls (a0:ByteArray) (A0:Option Addr) (c0:Nat) (l0:List (S96)) (A2:Option Addr) (c1:Nat) (l1:List (S98)) (A3:Option Addr) (c2:Nat) (l2:List (S61)) (A4:Option Addr) (c3:Nat) (l3:List (S33)) (A5:Option Addr) (c4:Nat) (l4:List (S100)) (a2:Int) (a1:ByteArray) (r:Int) (w:World) (hr0:Kd.C k96 w A0 l0.length l0) (hc0:l0.length≤c0) (hr1:Kd.C k98 w A2 l1.length l1) (hc1:l1.length≤c1) (hr2:Kd.C k61 w A3 l2.length l2) (hc2:l2.length≤c2) (hr3:Kd.C k33 w A4 l3.length l3) (hc3:l3.length≤c3) (hr4:Kd.C k100 w A5 l4.length l4) (hc4:l4.length≤c4) (h:valid_Phase.f a0 l0 l1 l2 l3 l4 a2 a1=some r) :
  Calls Tryd.prog 38 #[.agg #[.string a0,.slice A0 l0.length c0,.slice A2 l1.length c1,.slice A3 l2.length c2,.slice A4 l3.length c3,.slice A5 l4.length c4,.int .i64 a2],.string a1] w fun e w'=>e=.returned (.int .i64 r)∧Below w.heap.size w w':=by
 have hu:=Tryd.underlying28
 have HR3:=am hr2
 clear hr0 hc0 hr1 hc1 hr2 hc2 hr3 hc3 hr4 hc4
 unfold valid_Phase.f at h
 by_cases cm:l2.length≤1000000000;{
 rw [if_pos cm] at h
 have HM:=am cm
 have HI:=am (Option.some.inj h)
 clear h cm
 have HB:=am (Below.refl w.heap.size w)
 have hmf:∀ (fn:Fn) (first cap:Array Value) (w:World),(Instr.makeFunc fn first cap).run Tryd.prog w=.ok (.func fn first cap) w:=fun _ _ _ _=>rfl
 go_enter Tryd.func38,Tryd.ntmps38
 go_wp2_with (first|((with_reducible refine gd 2 rfl ?_);refine bx_ 2 28 #[.string a0,.slice A0 l0.length c0,.slice A2 l1.length c1,.slice A3 l2.length c2,.slice A4 l3.length c3,.slice A5 l4.length c4,.int .i64 a2] rfl rfl ?_;intro ga hg w1 BK2 hb;replace HB:=bs HB hb;clear hb hg;have hcz:=X.k7 BK2)|((with_reducible refine gd 3 rfl ?_);refine bx_ 3 9 #[.string a1] rfl rfl ?_;intro gb hg w2 BK3 hb;replace BK2:=bb BK2 hb;replace HB:=bs HB hb;clear hb hg;clear hcz;have hcz:=X.k7 BK2;have hcy:=X.k1 BK3)|(go_at_call 48;refine (slices_IndexFunc_Phase.calls 49 Tryd.f49 #[.pointer (some ⟨gb,0,none⟩)] Tryd.func49 (by kernel_rfl) (by kernel_rfl) (fun x=>x.f0.toList==a1.toList) A3 c2 l2 _ (Kd.C_below HR3.out (bf HB)) HM.out (fun x A1 n1 w5 _ hb5=>valid_Phase_1.calls gb a1 x A1 n1 w5 (bb BK3 hb5).out)).mono ?_;rintro e w3 ⟨rfl,hb⟩;replace HB:=bs HB hb;clear hb))
 go_ret
 exact ⟨by rw [← HI.out];rfl,bf HB⟩};{
 rw [if_neg cm] at h
 cases h}
theorem crit_ring.calls (k:Nat) (a0:ByteArray) (A0:Option Addr) (c0:Nat) (l1:List (S96)) (A1:Option Addr) (c3:Nat) (l3:List (S98)) (A3:Option Addr) (c4:Nat) (l4:List (S61)) (A4:Option Addr) (c5:Nat) (l5:List (S33)) (A5:Option Addr) (c6:Nat) (l6:List (S100)) (a1:Int) (a2:Bool) (A6:Option Addr) (c9:Nat) (l7:List ByteArray) (A2:Option Addr) (c2:Nat) (l2:List (S36)) (r1:Int) (r2:Int) (r3:Int) (w:World) (hr0:Kd.C k96 w A0 l1.length l1) (hc0:l1.length≤c0) (hr1:Kd.C k98 w A1 l3.length l3) (hc1:l3.length≤c3) (hr3:Kd.C k61 w A3 l4.length l4) (hc3:l4.length≤c4) (hr4:Kd.C k33 w A4 l5.length l5) (hc4:l5.length≤c5) (hr5:Kd.C k100 w A5 l6.length l6) (hc5:l6.length≤c6) (hr6:Kd.C Kd.string w A6 l7.length l7) (hc6:l7.length≤c9) (hr2:Kd.C k36 w A2 l2.length l2) (hc2:l2.length≤c2) (h:crit_ring.f k a0 l1 l3 l4 l5 l6 a1 a2 l7 l2=some (r1,r2,r3)) (hT:TabOK w) :
  Calls Tryd.prog 20 #[.agg #[.string a0,.slice A0 l1.length c0,.slice A1 l3.length c3,.slice A3 l4.length c4,.slice A4 l5.length c5,.slice A5 l6.length c6,.int .i64 a1],.agg #[.bool a2,.slice A6 l7.length c9],.slice A2 l2.length c2] w fun e w'=>e=.returned (.tuple #[.agg #[.int .i64 r1,.int .i64 r2],.int .i64 r3])∧Below w.heap.size w w':=by
 have GT:=am hT
 clear hT
 have hu0:=Tryd.underlying28
 have hu1:=Tryd.underlying63
 have hu2:=Tryd.underlying36
 have HR0:=am hr0
 have HC0:=am hc0
 clear hr0 hc0
 have HR1:=am hr1
 have HC1:=am hc1
 clear hr1 hc1
 have HR3:=am hr3
 have HC3:=am hc3
 clear hr3 hc3
 have HR4:=am hr4
 have HC4:=am hc4
 clear hr4 hc4
 have HR5:=am hr5
 have HC5:=am hc5
 clear hr5 hc5
 have HR6:=am hr6
 have HC6:=am hc6
 clear hr6 hc6
 have HR2:=am hr2
 have HC2:=am hc2
 clear hr2 hc2
 have HB:=am (Below.refl w.heap.size w)
 have H:(crit_ring.l0 k l2 ([]:List (S36)) l7 (l7.length:Int) 0 a0 l1 l3 l4 l5 l6 a1)=some (r1,r2,r3):=h
 clear h
 have H':=am H
 clear H
 go_enter Tryd.func20,Tryd.ntmps20
 go_wp2_with (first|((with_reducible refine gd 3 rfl ?_);refine bx_ 3 28 #[.string a0,.slice A0 l1.length c0,.slice A1 l3.length c3,.slice A3 l4.length c4,.slice A4 l5.length c5,.slice A5 l6.length c6,.int .i64 a1] rfl rfl ?_;intro gb0 hg w4 BK0 hb;have GE0:=bz HB hg;replace HB:=bs HB hb;clear hb hg)|((with_reducible refine gd 4 rfl ?_);refine bx_ 4 63 #[.bool a2,.slice A6 l7.length c9] rfl rfl ?_;intro gb1 hg w5 BK1 hb;have GE1:=bz HB hg;have ⟨NB0,NB1⟩:=nb BK0 hg;replace BK0:=bb BK0 hb;replace HB:=bs HB hb;clear hb hg)|((with_reducible refine gd 6 rfl ?_);refine bx_ 6 36 #[.int .i64 0,.int .i64 0] rfl rfl ?_;intro gb2 hg w6 BK2 hb;have GE2:=bz HB hg;have ⟨NB2,NB3⟩:=nb BK0 hg;have ⟨NB4,NB5⟩:=nb BK1 hg;replace BK0:=bb BK0 hb;replace BK1:=bb BK1 hb;replace HB:=bs HB hb;clear hb hg;have hnb7:=nn NB1;have hnb8:=nn NB4;have hcz9:=X.k2 BK1))
 go_loopg [8,15] k (fun kq v8 v0 w'=>∃ (x0:List (S36)) (x1:Int),v0=.int .i64 x1∧Aside0 (crit_ring.l0 kq l2 x0 l7 (l7.length:Int) x1 a0 l1 l3 l4 l5 l6 a1=some (r1,r2,r3))∧Aside0 (kq≤k)∧Aside0 (Kd.R k36 36 w' w.heap.size (fun k_=>k_≠gb2) v8 x0)∧Aside0 (w'.heap[gb0]?=some (.cells #[.string a0,(.slice A0 l1.length c0),(.slice A1 l3.length c3),(.slice A3 l4.length c4),(.slice A4 l5.length c5),(.slice A5 l6.length c6),.int .i64 a1] 28 (0,0)))∧Aside0 (w'.heap[gb1]?=some (.cells #[.bool a2,(.slice A6 l7.length c9)] 63 (0,0)))∧Aside0 (w'.heap[gb2]?=some (.cells #[.int .i64 0,.int .i64 0] 36 (0,0)))∧Aside0 (Below w.heap.size w w'))
 case atStart=>exact ⟨(([]:List (S36))),(0),(aq),H',⟨Nat.le_refl _⟩,⟨by first|exact Kd.R_nil _ _ _ _ _|exact Kd.N_nil _ _ _ _ _|exact Kd.V_nil _ _ _ _ _|exact Kd.Q_nil _ _ _ _ _|exact Kd.S_nil _ _ _ _ _⟩,bu_ BK0,bu_ BK1,bu_ BK2,⟨bf HB⟩⟩
 case round =>skip;{
 clear H'
 (try clear c1);(try clear c2);(try clear p2);(try clear c7);(try clear c8);(try clear hcz9)
 obtain ⟨x0,x1,rfl,HA,HK1,HO0,BK0,BK1,BK2,HB⟩:=hrel
 cases gk with
 | zero=>exact absurd HA.out (by simp [crit_ring.l0])
 | succ k1 =>skip;{
 have H:=HA.out
 clear HA
 simp only [crit_ring.l0] at H
 by_cases c10:x1<(l7.length:Int);{
 rw [if_pos c10] at H
 have c18:decide (x1<(l7.length:Int))=true:=decide_eq_true c10
 clear c10
 by_cases c11:0≤x1;{
 rw [if_pos c11] at H
 have c20:decide (0≤x1)=true:=decide_eq_true c11
 clear c11
 by_cases c12:x1<(l7.length:Int);{
 rw [if_pos c12] at H
 have c22:decide (x1<(l7.length:Int))=true:=decide_eq_true c12
 clear c12
 replace H:=bi_ H;obtain ⟨t0,A7,H⟩:=H
 (try dsimp only at H)
 by_cases c14:t0≥0;{
 rw [if_pos c14] at H
 have c24:decide (0≤t0)=true:=decide_eq_true c14
 clear c14
 by_cases c15:0≤t0;{
 rw [if_pos c15] at H
 have c26:decide (0≤t0)=true:=decide_eq_true c15
 clear c15
 by_cases c16:t0<(l2.length:Int);{
 rw [if_pos c16] at H
 have c28:decide (t0<(l2.length:Int))=true:=decide_eq_true c16
 clear c16
 by_cases c17:x0.length<8796093022208;{
 rw [if_pos c17] at H
 have LMc0:=am c17
 clear c17
 obtain ⟨y0,hy0⟩:∃ y_:List (S36),y_=(x0++[(⟨(rd_T36 l2 t0).f0,(rd_T36 l2 t0).f1⟩:S36)]):=⟨_,rfl⟩
 replace H:(crit_ring.l0 k1 l2 y0 l7 (l7.length:Int) (wrap64 (x1+1)) a0 l1 l3 l4 l5 l6 a1)=some (r1,r2,r3):=by first|(rw [hy0];with_reducible exact H)|(have H0:=(Option.bind_some _ _).symm.trans H;rw [hy0];with_reducible exact H0)|(have H0:=(Option.bind_some _ _).symm.trans H;with_reducible exact H0)|with_reducible exact H|(rw [hy0];exact H)|exact H
 have Ny0:=am hy0
 clear hy0
 have H':=am H
 clear H
 have p0:0≤(x1:Int):=od_
 have q0:x1<(l7.length:Int):=od_
 obtain ⟨ad0,e0,hx0⟩:=Kd.at_string HR6.out x1 p0 q0
 cases e0
 replace hx0:=hx_ HB hx0
 replace p0:=eq_true p0
 replace q0:=eq_true q0
 have hnb0:=nn NB0
 have hnb1:=nn NB2
 have hcz0:=X.k7 BK0
 go_wp2_with (first|((with_reducible refine gc 38 rfl ?_);refine gm_ (some 21) rfl rfl Tryd.func38 (valid_Phase.calls _ _ _ _ _ _ _ _ _ _ _ _ _ _ _ _ _ (rdOf ByteArray.empty l7 x1) _ _ ?side1 ?side2 ?side3 ?side4 ?side5 ?side6 ?side7 ?side8 ?side9 ?side10 A7.out) ag ?_;(case side1=>repeat (first|exact (Kd.C_below HR0.out HB.out)|(with_reducible refine Kd.C_alloc ?_ _)|(with_reducible refine Kd.C_drewN ?_ _)|(with_reducible refine Kd.C_drew ?_)));(case side2=>exact HC0.out);(case side3=>repeat (first|exact (Kd.C_below HR1.out HB.out)|(with_reducible refine Kd.C_alloc ?_ _)|(with_reducible refine Kd.C_drewN ?_ _)|(with_reducible refine Kd.C_drew ?_)));(case side4=>exact HC1.out);(case side5=>repeat (first|exact (Kd.C_below HR3.out HB.out)|(with_reducible refine Kd.C_alloc ?_ _)|(with_reducible refine Kd.C_drewN ?_ _)|(with_reducible refine Kd.C_drew ?_)));(case side6=>exact HC3.out);(case side7=>repeat (first|exact (Kd.C_below HR4.out HB.out)|(with_reducible refine Kd.C_alloc ?_ _)|(with_reducible refine Kd.C_drewN ?_ _)|(with_reducible refine Kd.C_drew ?_)));(case side8=>exact HC4.out);(case side9=>repeat (first|exact (Kd.C_below HR5.out HB.out)|(with_reducible refine Kd.C_alloc ?_ _)|(with_reducible refine Kd.C_drewN ?_ _)|(with_reducible refine Kd.C_drew ?_)));(case side10=>exact HC5.out);intro w1 hb;replace HO0:=am (Kd.R_below (Rt_ HO0.out) hb);replace BK0:=bb BK0 hb;replace BK1:=bb BK1 hb;replace BK2:=bb BK2 hb;replace HB:=bs HB hb;(try clear hb);have p1:0≤(t0:Int):=od_;have q1:t0<(l2.length:Int):=od_;obtain ⟨ad1,e1,hx1,hx2⟩:=at_T36 HR2.out t0 p1 q1;cases e1;replace hx1:=hx_ HB hx1;replace hx2:=hx_ HB hx2;replace p1:=eq_true p1;replace q1:=eq_true q1)|((with_reducible refine gate_builtin (b:=.append) (xs:=#[.tmp 24,.tmp 29]) rfl ?_);at_builtin;refine Kd.R_append k36 (w0:=w) w.heap.size rfl (.tmp 24) (.tmp 29) 29 36 (.agg #[(.int .i64 0),(.int .i64 0)]) 16 rfl Tryd.underlying29 info36 rfl (by decide) (by omega) u8 x0 (⟨(rd_T36 l2 t0).f0,(rd_T36 l2 t0).f1⟩:S36) [.int .i64 ((rd_T36 l2 t0).f0),.int .i64 ((rd_T36 l2 t0).f1)] (fun k_=>k_≠gb2) (fun _=>False) rfl rfl ?aP (fun _ hk=>hk.elim) ?aF ?aO ?aB ?aS ?aL ?_;(case aP=>exact k36_mkM _ _ _ (⟨(rd_T36 l2 t0).f0,(rd_T36 l2 t0).f1⟩:S36));(case aB=>exact (bf HB));(case aF=>exact (fun k_ hk=>Kd.freshB (g:=gb2) (o:=.cells #[.int .i64 0,.int .i64 0] 36 (0,0)) (bx BK2) k_ hk));(case aO=>exact (Rt_ HO0.out));(case aS=>exact (below_size (bf HB)));(case aL=>have:=LMc0.out;omega);intro v1 w2 ho hb hg hat;rw [← Ny0.out] at ho;have n0:=am (blk_grown (g:=gb0) (o:=.cells #[.string a0,.slice A0 l1.length c0,.slice A1 l3.length c3,.slice A3 l4.length c4,.slice A4 l5.length c5,.slice A5 l6.length c6,.int .i64 a1] 28 (0,0)) (bx BK0) hg (Kd.R_ne HO0.out BK0.out (by decide)));have n1:=am (blk_grown (g:=gb1) (o:=.cells #[.bool a2,.slice (some ad0) l7.length c9] 63 (0,0)) (bx BK1) hg (Kd.R_ne HO0.out BK1.out (by decide)));have n2:=am (blk_grown (g:=gb2) (o:=.cells #[.int .i64 0,.int .i64 0] 36 (0,0)) (bx BK2) hg (Kd.R_away HO0.out (fun _ hk=>hk)));have n3:=am (hb);have n4:=am (ho);clear BK0;clear BK1;clear BK2;clear HB;clear HO0;have BK0:=n0;have BK1:=n1;have BK2:=n2;have HB:=n3;have HO1:=n4;clear n0 n1 n2 n3 n4;clear ho hb hg hat))
 go_roundg k1
 case measure=>have:=HK1.out;omega
 case rel=>exact ⟨(y0),(wrap64 (x1+1)),(aq),H',⟨by have:=HK1.out;omega⟩,⟨Rt_ HO1.out⟩,bu_ BK0,bu_ BK1,bu_ BK2,⟨bf HB⟩⟩};{
 rw [if_neg c17] at H
 exact absurd H (by simp)}};{
 rw [if_neg c16] at H
 exact absurd H (by simp)}};{
 rw [if_neg c15] at H
 exact absurd H (by simp)}};{
 rw [if_neg c14] at H
 have c24:decide (0≤t0)=false:=decide_eq_false c14
 clear c14
 have H':=am H
 clear H
 have p0:0≤(x1:Int):=od_
 have q0:x1<(l7.length:Int):=od_
 obtain ⟨ad0,e0,hx0⟩:=Kd.at_string HR6.out x1 p0 q0
 cases e0
 replace hx0:=hx_ HB hx0
 replace p0:=eq_true p0
 replace q0:=eq_true q0
 have hnb2:=nn NB0
 have hnb3:=nn NB2
 have hcz1:=X.k7 BK0
 go_wp2_with (first|((with_reducible refine gc 38 rfl ?_);refine gm_ (some 21) rfl rfl Tryd.func38 (valid_Phase.calls _ _ _ _ _ _ _ _ _ _ _ _ _ _ _ _ _ (rdOf ByteArray.empty l7 x1) _ _ ?side1 ?side2 ?side3 ?side4 ?side5 ?side6 ?side7 ?side8 ?side9 ?side10 A7.out) ag ?_;(case side1=>repeat (first|exact (Kd.C_below HR0.out HB.out)|(with_reducible refine Kd.C_alloc ?_ _)|(with_reducible refine Kd.C_drewN ?_ _)|(with_reducible refine Kd.C_drew ?_)));(case side2=>exact HC0.out);(case side3=>repeat (first|exact (Kd.C_below HR1.out HB.out)|(with_reducible refine Kd.C_alloc ?_ _)|(with_reducible refine Kd.C_drewN ?_ _)|(with_reducible refine Kd.C_drew ?_)));(case side4=>exact HC1.out);(case side5=>repeat (first|exact (Kd.C_below HR3.out HB.out)|(with_reducible refine Kd.C_alloc ?_ _)|(with_reducible refine Kd.C_drewN ?_ _)|(with_reducible refine Kd.C_drew ?_)));(case side6=>exact HC3.out);(case side7=>repeat (first|exact (Kd.C_below HR4.out HB.out)|(with_reducible refine Kd.C_alloc ?_ _)|(with_reducible refine Kd.C_drewN ?_ _)|(with_reducible refine Kd.C_drew ?_)));(case side8=>exact HC4.out);(case side9=>repeat (first|exact (Kd.C_below HR5.out HB.out)|(with_reducible refine Kd.C_alloc ?_ _)|(with_reducible refine Kd.C_drewN ?_ _)|(with_reducible refine Kd.C_drew ?_)));(case side10=>exact HC5.out);intro w3 hb;replace HO0:=am (Kd.R_below (Rt_ HO0.out) hb);replace BK0:=bb BK0 hb;replace BK1:=bb BK1 hb;replace BK2:=bb BK2 hb;replace HB:=bs HB hb;(try clear hb)))
 go_roundg k1
 case measure=>have:=HK1.out;omega
 case rel=>exact ⟨(x0),(wrap64 (x1+1)),(aq),H',⟨by have:=HK1.out;omega⟩,⟨Rt_ HO0.out⟩,bu_ BK0,bu_ BK1,bu_ BK2,⟨bf HB⟩⟩}};{
 rw [if_neg c12] at H
 exact absurd H (by simp)}};{
 rw [if_neg c11] at H
 exact absurd H (by simp)}};{
 rw [if_neg c10] at H
 have c18:decide (x1<(l7.length:Int))=false:=decide_eq_false c10
 clear c10
 replace H:=bi_ H;obtain ⟨⟨t1,t2,t3⟩,A8,H⟩:=H
 (try dsimp only at H)
 simp only [Option.some.injEq,Prod.mk.injEq] at H
 obtain ⟨rfl,rfl,rfl⟩:=H
 obtain ⟨Ao0,co0,eo0⟩:=Kd.R_slice HO0.out
 subst eo0
 go_wp2_with (first|((with_reducible refine gc 22 rfl ?_);refine gm_ (some 33) rfl rfl Tryd.func22 (frac_Sum.calls _ _ _ _ _ _ _ _ ?side1 ?side2 A8.out (tt GT)) ag ?_;(case side1=>repeat (first|exact (Kd.R_reads' HO0.out).2.2|(with_reducible refine Kd.C_alloc ?_ _)|(with_reducible refine Kd.C_drewN ?_ _)|(with_reducible refine Kd.C_drew ?_)));(case side2=>exact (Kd.R_reads' HO0.out).2.1);intro w7 hb;replace HO0:=am (Kd.R_below (Rt_ HO0.out) hb);replace BK2:=bb BK2 hb;replace HB:=bs HB hb;(try clear hb);have hnb4:=nn NB3;have hnb5:=nn NB5;have hcz2:=X.k2 BK2))
 refine bodyPost_ret (results_ct rfl _ _ gb2 36 #[.int .i64 t1,.int .i64 t2] (0,0) _ rfl (br_ BK2) Tryd.underlying36 rfl (by kernel_rfl)) rfl ?_
 exact ⟨ae,bf HB⟩}}}
theorem whole_sign.calls (k:Nat) (a0:Int) (a1:Int) (r:Int) (w:World) (h:whole_sign.f k a0 a1=some r) :
  Calls Tryd.prog 57 #[.int .i64 a0,.int .i64 a1] w fun e w'=>e=.returned (.int .i64 r)∧Drawn0 w w':=by
 have H:(if a0=0 then (whole_sign.j0 k a0 a1 true) else (whole_sign.j0 k a0 a1 (a1==0)))=some r:=h
 clear h
 have HC3:=am H
 clear H
 go_enter Tryd.func57,Tryd.ntmps57
 go_upto_region 1 with (fail)
 go_cut [5] (fun v5 wc=>∃ (kq:Nat) (x0:Bool),v5=.bool x0∧Aside0 (whole_sign.j0 kq a0 a1 x0=some r)∧Aside0 (kq≤k)∧Drawn0 w wc)
 case first =>skip;{
 have H:=HC3.out
 clear HC3
 by_cases c4:a0=0;{
 rw [if_pos c4] at H
 have c0:(a0==0)=true:=beq_iff_eq.mpr c4
 have c1:(a0 != 0)=false:=bne_eq_false_iff_eq.mpr c4
 clear c4
 (first|rw [c0]|(simp only [i64_w,i32_w];rw [c0])|skip)
 have H':=am H
 clear H
 go_wp2
 go_meet
 case rel=>exact ⟨_,(true),(aq),H',⟨by first|omega|exact Nat.le_refl _⟩,dr⟩};{
 rw [if_neg c4] at H
 have c0:(a0==0)=false:=beq_eq_false_iff_ne.mpr c4
 have c1:(a0 != 0)=true:=bne_iff_ne.mpr c4
 (first|rw [c0]|(simp only [i64_w,i32_w];rw [c0])|skip)
 have H':=am H
 clear H
 go_wp2
 go_meet
 case rel=>exact ⟨_,((a1==0)),(aq),H',⟨by first|omega|exact Nat.le_refl _⟩,dr⟩}}
 case rest =>skip;{
 clear HC3
 (try clear p2);(try clear c4);(try clear c0);(try clear c1)
 obtain ⟨kq,x0,rfl,HA,HJ2,⟨mc2,rfl⟩⟩:=hcut
 cases kq with
 | zero=>exact absurd HA.out (by simp [whole_sign.j0])
 | succ kj2 =>skip;{
 have H:=HA.out
 clear HA
 simp only [whole_sign.j0] at H
 by_cases c5:x0=true;{
 subst c5
 have H1:(some 0)=some r:=by rw [if_pos rfl] at H;exact H
 clear H
 have H:=H1
 clear H1
 obtain rfl:=Option.some.inj H
 go_wp2
 go_ret
 exact ⟨aq,dr⟩};{
 replace c5:=Bool.eq_false_iff.mpr c5
 subst c5
 have H1:(if ((decide (a0<0)) != (decide (a1<0)))=true then (some (-1)) else (some 1))=some r:=by rw [if_neg (show ¬ (false=true) by decide)] at H;exact H
 clear H
 have H:=H1
 clear H1
 by_cases c6:((decide (a0<0)) != (decide (a1<0)))=true;{
 rw [if_pos c6] at H
 have c2:((decide (a0<0)) != (decide (a1<0)))=true:=c6
 (try (have c3:decide ((decide (a0<0))=(decide (a1<0)))=false:=by simpa using c6))
 (try (have c7:((decide (a0<0))==(decide (a1<0)))=false:=by simpa using c6))
 (try (have c8:¬ ((decide (a0<0))=(decide (a1<0))):=by simpa using c6))
 clear c6
 obtain rfl:=Option.some.inj H
 go_wp2
 go_ret
 exact ⟨aq,dr⟩};{
 rw [if_neg c6] at H
 have c2:((decide (a0<0)) != (decide (a1<0)))=false:=by simpa using c6
 (try (have c3:decide ((decide (a0<0))=(decide (a1<0)))=true:=by simpa using c6))
 (try (have c7:((decide (a0<0))==(decide (a1<0)))=true:=by simpa using c6))
 clear c6
 obtain rfl:=Option.some.inj H
 go_wp2
 go_ret
 exact ⟨aq,dr⟩}}}}
theorem whole_product.calls (a0:Int) (a1:Int) (r1:Int) (r2:Int) (w:World) (h:whole_product.f a0 a1=some (r1,r2)) :
  Calls Tryd.prog 58 #[.int .i64 a0,.int .i64 a1] w fun e w'=>e=.returned (.agg #[.int .u64 r1,.int .u64 r2])∧Below w.heap.size w w':=by
 have hu0:=Tryd.underlying113
 have HB:=am (Below.refl w.heap.size w)
 have H:((whole_size.f a0).bind fun t0=>((whole_size.f a1).bind fun t1=>((bits_Mul64.f t0 t1).bind fun bt0=>(some (bt0.1,bt0.2)))))=some (r1,r2):=h
 clear h
 replace H:=bi_ H;obtain ⟨t0,A3,H⟩:=H
 (try dsimp only at H)
 replace H:=bi_ H;obtain ⟨t1,A4,H⟩:=H
 (try dsimp only at H)
 replace H:=bi_ H;obtain ⟨⟨t2,t3⟩,A5,H⟩:=H
 (try dsimp only at H)
 simp only [Option.some.injEq,Prod.mk.injEq] at H
 obtain ⟨rfl,rfl⟩:=H
 go_enter Tryd.func58,Tryd.ntmps58
 go_wp2_with (first|((with_reducible refine gd 4 rfl ?_);refine bx_ 4 113 #[.int .u64 0,.int .u64 0] rfl rfl ?_;intro gb0 hg w6 BK0 hb;have GE0:=bz HB hg;replace HB:=bs HB hb;clear hb hg)|((with_reducible refine gc 66 rfl ?_);refine gm_ (some 9) rfl rfl Tryd.func66 (whole_size.calls _ _ _ A3.out) ag ?_;rintro w' ⟨nd,rfl⟩;(try (rw [drewN_self w6];generalize hq_:World.drewN w6 _=w6;have n0:Aside0 (w6.heap[gb0]?=some (.cells #[.int .u64 0,.int .u64 0] 113 (0,0))):=⟨by rw [← hq_];exact (bx BK0)⟩;have n1:Aside0 (Below w.heap.size w w6):=⟨by rw [← hq_];exact (bf HB)⟩;clear BK0 HB hq_;have BK0:=n0;have HB:=n1;clear n0 n1)))|((with_reducible refine gc 66 rfl ?_);refine gm_ (some 11) rfl rfl Tryd.func66 (whole_size.calls _ _ _ A4.out) ag ?_;rintro w' ⟨nd,rfl⟩;(try (rw [drewN_self w6];generalize hq_:World.drewN w6 _=w6;have n0:Aside0 (w6.heap[gb0]?=some (.cells #[.int .u64 0,.int .u64 0] 113 (0,0))):=⟨by rw [← hq_];exact (bx BK0)⟩;have n1:Aside0 (Below w.heap.size w w6):=⟨by rw [← hq_];exact (bf HB)⟩;clear BK0 HB hq_;have BK0:=n0;have HB:=n1;clear n0 n1)))|((with_reducible refine gc 65 rfl ?_);refine gm_ (some 12) rfl rfl Tryd.func65 (bits_Mul64.calls _ _ _ _ _ A5.out) ag ?_;rintro w' ⟨nd,rfl⟩;(try (rw [drewN_self w6];generalize hq_:World.drewN w6 _=w6;have n0:Aside0 (w6.heap[gb0]?=some (.cells #[.int .u64 0,.int .u64 0] 113 (0,0))):=⟨by rw [← hq_];exact (bx BK0)⟩;have n1:Aside0 (Below w.heap.size w w6):=⟨by rw [← hq_];exact (bf HB)⟩;clear BK0 HB hq_;have BK0:=n0;have HB:=n1;clear n0 n1));have hcz7:=X.k2 BK0))
 refine bodyPost_ret (results_cell_row rfl _ _ gb0 113 #[.int .u64 t2,.int .u64 t3] (0,0) _ rfl (br_ BK0) Tryd.underlying113 rfl (by kernel_rfl)) rfl ?_
 exact ⟨ae,bf HB⟩
theorem whole_double_less.calls (a0:Int) (a1:Int) (a2:Int) (a3:Int) (r:Bool) (w:World) (h:whole_double_less.f a0 a1 a2 a3=some r) :
  Calls Tryd.prog 59 #[.agg #[.int .u64 a0,.int .u64 a1],.agg #[.int .u64 a2,.int .u64 a3]] w fun e w'=>e=.returned (.bool r)∧Below w.heap.size w w':=by
 have hu0:=Tryd.underlying113
 have HB:=am (Below.refl w.heap.size w)
 have H:(if a0<a2 then (some true) else (if a0=a2 then (some (decide (a1<a3))) else (some false)))=some r:=h
 clear h
 by_cases c3:a0<a2;{
 rw [if_pos c3] at H
 have c0:decide (a0<a2)=true:=decide_eq_true c3
 clear c3
 obtain rfl:=Option.some.inj H
 go_enter Tryd.func59,Tryd.ntmps59
 go_wp2_with (first|((with_reducible refine gd 2 rfl ?_);refine bx_ 2 113 #[.int .u64 a0,.int .u64 a1] rfl rfl ?_;intro gb0 hg w4 BK0 hb;have GE0:=bz HB hg;replace HB:=bs HB hb;clear hb hg)|((with_reducible refine gd 3 rfl ?_);refine bx_ 3 113 #[.int .u64 a2,.int .u64 a3] rfl rfl ?_;intro gb1 hg w5 BK1 hb;have GE1:=bz HB hg;have ⟨NB0,NB1⟩:=nb BK0 hg;replace BK0:=bb BK0 hb;replace HB:=bs HB hb;clear hb hg;have hnb6:=nn NB0;have hcz7:=X.k2 BK0;have hcz8:=X.k2 BK1))
 go_ret
 exact ⟨ae,bf HB⟩};{
 rw [if_neg c3] at H
 have c0:decide (a0<a2)=false:=decide_eq_false c3
 clear c3
 by_cases c9:a0=a2;{
 rw [if_pos c9] at H
 have c1:(a0==a2)=true:=beq_iff_eq.mpr c9
 have c2:(a0 != a2)=false:=bne_eq_false_iff_eq.mpr c9
 clear c9
 obtain rfl:=Option.some.inj H
 go_enter Tryd.func59,Tryd.ntmps59
 go_wp2_with (first|((with_reducible refine gd 2 rfl ?_);refine bx_ 2 113 #[.int .u64 a0,.int .u64 a1] rfl rfl ?_;intro gb0 hg w0 BK0 hb;have GE0:=bz HB hg;replace HB:=bs HB hb;clear hb hg)|((with_reducible refine gd 3 rfl ?_);refine bx_ 3 113 #[.int .u64 a2,.int .u64 a3] rfl rfl ?_;intro gb1 hg w1 BK1 hb;have GE1:=bz HB hg;have ⟨NB0,NB1⟩:=nb BK0 hg;replace BK0:=bb BK0 hb;replace HB:=bs HB hb;clear hb hg;have hnb0:=nn NB0;have hcz0:=X.k2 BK0;have hcz1:=X.k2 BK1))
 go_ret
 exact ⟨ae,bf HB⟩};{
 rw [if_neg c9] at H
 have c1:(a0==a2)=false:=beq_eq_false_iff_ne.mpr c9
 have c2:(a0 != a2)=true:=bne_iff_ne.mpr c9
 obtain rfl:=Option.some.inj H
 go_enter Tryd.func59,Tryd.ntmps59
 go_wp2_with (first|((with_reducible refine gd 2 rfl ?_);refine bx_ 2 113 #[.int .u64 a0,.int .u64 a1] rfl rfl ?_;intro gb0 hg w2 BK0 hb;have GE0:=bz HB hg;replace HB:=bs HB hb;clear hb hg)|((with_reducible refine gd 3 rfl ?_);refine bx_ 3 113 #[.int .u64 a2,.int .u64 a3] rfl rfl ?_;intro gb1 hg w3 BK1 hb;have GE1:=bz HB hg;have ⟨NB0,NB1⟩:=nb BK0 hg;replace BK0:=bb BK0 hb;replace HB:=bs HB hb;clear hb hg;have hnb1:=nn NB0;have hcz2:=X.k2 BK0;have hcz3:=X.k2 BK1))
 go_ret
 exact ⟨ae,bf HB⟩}}
theorem whole_Compare.calls (k:Nat) (a0:Int) (a1:Int) (a2:Int) (a3:Int) (r:Int) (w:World) (h:whole_Compare.f k a0 a1 a2 a3=some r) :
  Calls Tryd.prog 51 #[.int .i64 a0,.int .i64 a1,.int .i64 a2,.int .i64 a3] w fun e w'=>e=.returned (.int .i64 r)∧Below w.heap.size w w':=by
 have hu0:=Tryd.underlying113
 have HB:=am (Below.refl w.heap.size w)
 have H:((whole_sign.f k a0 a1).bind fun t0=>((whole_sign.f k a2 a3).bind fun t1=>((whole_product.f a0 a1).bind fun bt0=>((whole_product.f a2 a3).bind fun bt1=>(if t0=t1 then (if (bt0.1==bt1.1&&(bt0.2==bt1.2))=true then (some 0) else ((whole_double_less.f bt0.1 bt0.2 bt1.1 bt1.2).bind fun t2=>(if t2=true then (some (wrap64 (-t0))) else (some t0)))) else (some (mx (-1) (mn 1 (wrap64 (t0-t1))))))))))=some r:=h
 clear h
 replace H:=bi_ H;obtain ⟨t0,A5,H⟩:=H
 (try dsimp only at H)
 replace H:=bi_ H;obtain ⟨t1,A6,H⟩:=H
 (try dsimp only at H)
 replace H:=bi_ H;obtain ⟨⟨t3,t4⟩,A7,H⟩:=H
 (try dsimp only at H)
 replace H:=bi_ H;obtain ⟨⟨t5,t6⟩,A8,H⟩:=H
 (try dsimp only at H)
 by_cases c9:t0=t1;{
 rw [if_pos c9] at H
 have c0:(t0==t1)=true:=beq_iff_eq.mpr c9
 have c1:(t0 != t1)=false:=bne_eq_false_iff_eq.mpr c9
 clear c9
 by_cases c2:(t3==t5&&(t4==t6))=true;{
 rw [if_pos c2] at H
 have c3:(t3==t5&&(t4==t6))=true:=c2
 (try (have c4:decide (t3=t5&&(t4==t6))=true:=by simpa using c2))
 (try (have c5:(t3==t5&&(t4==t6))=true:=by simpa using c2))
 clear c2
 obtain rfl:=Option.some.inj H
 go_enter Tryd.func51,Tryd.ntmps51
 go_wp2_with (first|((with_reducible refine gc 57 rfl ?_);refine gm_ (some 15) rfl rfl Tryd.func57 (whole_sign.calls _ _ _ _ _ A5.out) ag ?_;rintro w' ⟨nd,rfl⟩)|((with_reducible refine gc 57 rfl ?_);refine gm_ (some 18) rfl rfl Tryd.func57 (whole_sign.calls _ _ _ _ _ A6.out) ag ?_;rintro w' ⟨nd,rfl⟩)|((with_reducible refine gc 58 rfl ?_);refine gm_ (some 21) rfl rfl Tryd.func58 (whole_product.calls _ _ _ _ _ A7.out) ag ?_;intro w0 hb;replace HB:=bs HB hb;(try clear hb))|((with_reducible refine gc 58 rfl ?_);refine gm_ (some 24) rfl rfl Tryd.func58 (whole_product.calls _ _ _ _ _ A8.out) ag ?_;intro w1 hb;replace HB:=bs HB hb;(try clear hb))|((with_reducible refine gd 11 rfl ?_);refine bx_ 11 113 #[.int .u64 0,.int .u64 0] rfl rfl ?_;intro gb0 hg w2 BK0 hb;have GE0:=bz HB hg;replace HB:=bs HB hb;clear hb hg)|((with_reducible refine gd 12 rfl ?_);refine bx_ 12 113 #[.int .u64 0,.int .u64 0] rfl rfl ?_;intro gb1 hg w3 BK1 hb;have GE1:=bz HB hg;have ⟨NB0,NB1⟩:=nb BK0 hg;replace BK0:=bb BK0 hb;replace HB:=bs HB hb;clear hb hg;have hnb0:=nn NB0;have hcz0:=X.k2 BK0;have hcz1:=X.k2 BK1))
 go_ret
 exact ⟨ae,bf HB⟩};{
 rw [if_neg c2] at H
 have c3:(t3==t5&&(t4==t6))=false:=by simpa using c2
 (try (have c4:decide (t3=t5&&(t4==t6))=false:=by simpa using c2))
 (try (have c5:(t3==t5&&(t4==t6))=false:=by simpa using c2))
 (try (have c6:¬ (t3=t5&&(t4==t6)):=by simpa using c2))
 clear c2
 replace H:=bi_ H;obtain ⟨t2,A0,H⟩:=H
 (try dsimp only at H)
 by_cases c7:t2=true;{
 subst c7
 have H1:(some (wrap64 (-t0)))=some r:=by rw [if_pos rfl] at H;exact H
 clear H
 have H:=H1
 clear H1
 obtain rfl:=Option.some.inj H
 go_enter Tryd.func51,Tryd.ntmps51
 go_wp2_with (first|((with_reducible refine gc 57 rfl ?_);refine gm_ (some 15) rfl rfl Tryd.func57 (whole_sign.calls _ _ _ _ _ A5.out) ag ?_;rintro w' ⟨nd,rfl⟩)|((with_reducible refine gc 57 rfl ?_);refine gm_ (some 18) rfl rfl Tryd.func57 (whole_sign.calls _ _ _ _ _ A6.out) ag ?_;rintro w' ⟨nd,rfl⟩)|((with_reducible refine gc 58 rfl ?_);refine gm_ (some 21) rfl rfl Tryd.func58 (whole_product.calls _ _ _ _ _ A7.out) ag ?_;intro w4 hb;replace HB:=bs HB hb;(try clear hb))|((with_reducible refine gc 58 rfl ?_);refine gm_ (some 24) rfl rfl Tryd.func58 (whole_product.calls _ _ _ _ _ A8.out) ag ?_;intro w5 hb;replace HB:=bs HB hb;(try clear hb))|((with_reducible refine gd 11 rfl ?_);refine bx_ 11 113 #[.int .u64 0,.int .u64 0] rfl rfl ?_;intro gb0 hg w6 BK0 hb;have GE0:=bz HB hg;replace HB:=bs HB hb;clear hb hg)|((with_reducible refine gd 12 rfl ?_);refine bx_ 12 113 #[.int .u64 0,.int .u64 0] rfl rfl ?_;intro gb1 hg w7 BK1 hb;have GE1:=bz HB hg;have ⟨NB0,NB1⟩:=nb BK0 hg;replace BK0:=bb BK0 hb;replace HB:=bs HB hb;clear hb hg;have hnb1:=nn NB0;have hcz2:=X.k2 BK0;have hcz3:=X.k2 BK1)|((with_reducible refine gc 59 rfl ?_);refine gm_ (some 41) rfl rfl Tryd.func59 (whole_double_less.calls _ _ _ _ _ _ A0.out) ag ?_;intro w8 hb;replace BK0:=bp_ #[.int .u64 t3,.int .u64 t4] BK0 hb;replace BK1:=bp_ #[.int .u64 t5,.int .u64 t6] BK1 hb;replace HB:=bs HB hb;(try clear hb)))
 go_ret
 exact ⟨ae,bf HB⟩};{
 replace c7:=Bool.eq_false_iff.mpr c7
 subst c7
 have H1:(some t0)=some r:=by rw [if_neg (show ¬ (false=true) by decide)] at H;exact H
 clear H
 have H:=H1
 clear H1
 obtain rfl:=Option.some.inj H
 go_enter Tryd.func51,Tryd.ntmps51
 go_wp2_with (first|((with_reducible refine gc 57 rfl ?_);refine gm_ (some 15) rfl rfl Tryd.func57 (whole_sign.calls _ _ _ _ _ A5.out) ag ?_;rintro w' ⟨nd,rfl⟩)|((with_reducible refine gc 57 rfl ?_);refine gm_ (some 18) rfl rfl Tryd.func57 (whole_sign.calls _ _ _ _ _ A6.out) ag ?_;rintro w' ⟨nd,rfl⟩)|((with_reducible refine gc 58 rfl ?_);refine gm_ (some 21) rfl rfl Tryd.func58 (whole_product.calls _ _ _ _ _ A7.out) ag ?_;intro w9 hb;replace HB:=bs HB hb;(try clear hb))|((with_reducible refine gc 58 rfl ?_);refine gm_ (some 24) rfl rfl Tryd.func58 (whole_product.calls _ _ _ _ _ A8.out) ag ?_;intro w29 hb;replace HB:=bs HB hb;(try clear hb))|((with_reducible refine gd 11 rfl ?_);refine bx_ 11 113 #[.int .u64 0,.int .u64 0] rfl rfl ?_;intro gb0 hg w30 BK0 hb;have GE0:=bz HB hg;replace HB:=bs HB hb;clear hb hg)|((with_reducible refine gd 12 rfl ?_);refine bx_ 12 113 #[.int .u64 0,.int .u64 0] rfl rfl ?_;intro gb1 hg w31 BK1 hb;have GE1:=bz HB hg;have ⟨NB0,NB1⟩:=nb BK0 hg;replace BK0:=bb BK0 hb;replace HB:=bs HB hb;clear hb hg;have hnb2:=nn NB0;have hcz4:=X.k2 BK0;have hcz5:=X.k2 BK1)|((with_reducible refine gc 59 rfl ?_);refine gm_ (some 41) rfl rfl Tryd.func59 (whole_double_less.calls _ _ _ _ _ _ A0.out) ag ?_;intro w35 hb;replace BK0:=bp_ #[.int .u64 t3,.int .u64 t4] BK0 hb;replace BK1:=bp_ #[.int .u64 t5,.int .u64 t6] BK1 hb;replace HB:=bs HB hb;(try clear hb)))
 go_ret
 exact ⟨ae,bf HB⟩}}};{
 rw [if_neg c9] at H
 have c0:(t0==t1)=false:=beq_eq_false_iff_ne.mpr c9
 have c1:(t0 != t1)=true:=bne_iff_ne.mpr c9
 obtain ⟨ji0,hji0⟩:∃ j_:Int,(mn 1 (wrap64 (t0-t1)))=j_:=⟨_,rfl⟩
 replace H:(some (mx (-1) (ji0)))=some r:=by first|(rw [hji0] at H;exact H)|(simp only [hji0] at H ⊢;exact H)
 (try rw [hji0] at A5)
 (try rw [hji0] at A6)
 (try rw [hji0] at A7)
 (try rw [hji0] at A8)
 (try (have hji36h:ji0≤1:=by (rw [← hji0];unfold mn;(repeat' split)<;>omega)))
 (try (have hji36g:ji0≤64:=by omega))
 have hji1:(if (wrap64 (t0-t1))<1 then (wrap64 (t0-t1)) else 1)=ji0:=hji0
 obtain ⟨ji1,hji2⟩:∃ j_:Int,(mx (-1) (ji0))=j_:=⟨_,rfl⟩
 replace H:(some ji1)=some r:=by first|(rw [hji2] at H;exact H)|(simp only [hji2] at H ⊢;exact H)
 (try rw [hji2] at A5)
 (try rw [hji2] at A6)
 (try rw [hji2] at A7)
 (try rw [hji2] at A8)
 have hji3:(if (-1)<(ji0) then (ji0) else (-1))=ji1:=hji2
 obtain rfl:=Option.some.inj H
 go_enter Tryd.func51,Tryd.ntmps51
 go_wp2_with (first|((with_reducible refine gc 57 rfl ?_);refine gm_ (some 15) rfl rfl Tryd.func57 (whole_sign.calls _ _ _ _ _ A5.out) ag ?_;rintro w' ⟨nd,rfl⟩)|((with_reducible refine gc 57 rfl ?_);refine gm_ (some 18) rfl rfl Tryd.func57 (whole_sign.calls _ _ _ _ _ A6.out) ag ?_;rintro w' ⟨nd,rfl⟩)|((with_reducible refine gc 58 rfl ?_);refine gm_ (some 21) rfl rfl Tryd.func58 (whole_product.calls _ _ _ _ _ A7.out) ag ?_;intro w38 hb;replace HB:=bs HB hb;(try clear hb))|((with_reducible refine gc 58 rfl ?_);refine gm_ (some 24) rfl rfl Tryd.func58 (whole_product.calls _ _ _ _ _ A8.out) ag ?_;intro w39 hb;replace HB:=bs HB hb;(try clear hb))|((with_reducible refine gd 11 rfl ?_);refine bx_ 11 113 #[.int .u64 0,.int .u64 0] rfl rfl ?_;intro gb0 hg w40 BK0 hb;have GE0:=bz HB hg;replace HB:=bs HB hb;clear hb hg)|((with_reducible refine gd 12 rfl ?_);refine bx_ 12 113 #[.int .u64 0,.int .u64 0] rfl rfl ?_;intro gb1 hg w41 BK1 hb;have GE1:=bz HB hg;have ⟨NB0,NB1⟩:=nb BK0 hg;replace BK0:=bb BK0 hb;replace HB:=bs HB hb;clear hb hg;have hnb3:=nn NB0;have hcz6:=X.k2 BK0;have hcz7:=X.k2 BK1))
 go_ret
 exact ⟨by first|rfl|(simp [errW_none,errW_some]<;>rfl)|(simp only [← hji0,← hji2];first|rfl|(simp [errW_none,errW_some]<;>rfl))|(simp [*,errW_none,errW_some]<;>rfl),bf HB⟩}
end Go.Proofs.YtenphnkiacfmiaaDoor.X
