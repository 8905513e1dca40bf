/- Walks: each '.calls' says that the Go function comes to what its Lean function tells. Conditions: as each theorem's head says. -/
import Derived.Test.YtenphnkiacfmiaaDoorXD
import Derived.Test.YtenphnkiacfmiaaDoorX0
import Derived.Test.YtenphnkiacfmiaaDoorX25
namespace Go.Proofs.YtenphnkiacfmiaaDoor.X
open Go.RowKit Go.Proofs.YtenphnkiacfmiaaDoorW.PrintWords Go.Proofs.YtenphnkiacfmiaaDoorW.PrintLast Go.Proofs.YtenphnkiacfmiaaDoorW.PrintMore
attribute [local go_sem] max2_int min2_int max_two min_two max_three min_three max_four min_four
set_option linter.unusedVariables false
set_option maxHeartbeats 8000000
set_option maxRecDepth 100000
set_option linter.unusedSimpArgs false
def carrefourref02_Sum.T5:Bool × List (List Nat × List Nat):=(true,[([],[]),([],[]),([],[]),([1,2],[1,2]),([3],[3]),([0,4],[0,4]),([5],[5]),([6],[6]),([6],[6]),([],[]),([9,7,5,0,1,2,3,4,5,6,7,9],[7,9]),([8,10,0,1,2,3,4,5,6,7,8,9,10],[8])])
def carrefourref02_Sum.B5:List Nat:=[0,0,0,6,14,31,63,127,127,0,767,2047]
theorem carrefourref02_Sum.tab5:rtab .any (opsOf Tryd.f10 5)=carrefourref02_Sum.T5:=by kernel_rfl
theorem carrefourref02_Sum.bits5:waitsOk carrefourref02_Sum.T5.2 carrefourref02_Sum.B5=true:=by kernel_rfl
theorem carrefourref02_Sum.calls (k:Nat) (A0:Option Addr) (c0:Nat) (l0:List (S36)) (r1:Int) (r2:Int) (r3:Int) (w:World) (hr0:Kd.C k36 w A0 l0.length l0) (hc0:l0.length≤c0) (h:carrefourref02_Sum.f k l0=some (r1,r2,r3)) :
  Calls Tryd.prog 10 #[.slice A0 l0.length c0] w fun e w'=>e=.returned (.tuple #[.agg #[.int .i64 r1,.int .i64 r2],.int .i64 r3])∧Below w.heap.size w w':=by
 have hu0:=Tryd.underlying36
 have HR0:=am hr0
 have HC0:=am hc0
 clear hr0 hc0
 have HB:=am (Below.refl w.heap.size w)
 have H:(carrefourref02_Sum.l0 k l0 0 0 1)=some (r1,r2,r3):=h
 clear h
 have H':=am H
 clear H
 go_enter Tryd.func10,Tryd.ntmps10
 go_wp2_with (first|((with_reducible refine gd 2 rfl ?_);refine bx_ 2 36 #[.int .i64 0,.int .i64 0] rfl rfl ?_;intro gb0 hg w2 BK0 hb;have GE0:=bz HB hg;replace HB:=bs HB hb;clear hb hg)|((with_reducible refine gd 4 rfl ?_);refine bx_ 4 36 #[.int .i64 0,.int .i64 0] rfl rfl ?_;intro gb1 hg w3 BK1 hb;have GE1:=bz HB hg;have ⟨NB0,NB1⟩:=nb BK0 hg;replace BK0:=bb BK0 hb;replace HB:=bs HB hb;clear hb hg;have hnb4:=nn NB1;have hcz5:=X.k2 BK1))
 go_loopg [5] k (fun kq v5 w'=>∃ (x0:Int) (x1:Int) (x2:Int) (x3:Int) (x4:Int),v5=.int .i64 x0∧Aside0 (carrefourref02_Sum.l0 kq l0 x0 x3 x4=some (r1,r2,r3))∧Aside0 (kq≤k)∧Aside0 (w'.heap[gb0]?=some (.cells #[.int .i64 x1,.int .i64 x2] 36 (0,0)))∧Aside0 (w'.heap[gb1]?=some (.cells #[.int .i64 x3,.int .i64 x4] 36 (0,0)))∧Aside0 (Below w.heap.size w w'))
 case atStart=>exact ⟨(0),(0),(0),(0),(1),(aq),H',⟨Nat.le_refl _⟩,bu_ BK0,bq_ BK1,⟨bf HB⟩⟩
 case round =>skip;{
 clear H'
 (try clear c1);(try clear p2);(try clear c4);(try clear hcz5)
 obtain ⟨x0,x1,x2,x3,x4,rfl,HA,HK1,BK0,BK1,HB⟩:=hrel
 cases gk with
 | zero=>exact absurd HA.out (by simp [carrefourref02_Sum.l0])
 | succ k1 =>skip;{
 have H:=HA.out
 clear HA
 simp only [carrefourref02_Sum.l0] at H
 by_cases c6:x0<(l0.length:Int);{
 rw [if_pos c6] at H
 have c2:decide (x0<(l0.length:Int))=true:=decide_eq_true c6
 clear c6
 by_cases c7:0≤x0;{
 rw [if_pos c7] at H
 have c3:decide (0≤x0)=true:=decide_eq_true c7
 clear c7
 replace H:=bi_ H;obtain ⟨⟨t0,t1,t2⟩,A8,H⟩:=H
 (try dsimp only at H)
 by_cases c9:t2=0;{
 rw [if_pos c9] at H
 have c5:(t2==0)=true:=beq_iff_eq.mpr c9
 have c8:(t2 != 0)=false:=bne_eq_false_iff_eq.mpr c9
 clear c9
 have H':=am H
 clear H
 try go_wp2
 replace BK0:=am (blk_drew BK0.out)
 replace BK1:=am (blk_drew BK1.out)
 replace HB:=am (below_drew1 HB.out)
 have p0:0≤(x0:Int):=od_
 have q0:x0<(l0.length:Int):=od_
 obtain ⟨ad0,e0,hx0,hx1⟩:=at_T36 HR0.out x0 p0 q0
 have hw0:=hx1
 have hw1:=hx0
 cases e0
 replace hx0:=hx_ HB hx0
 replace hx1:=hx_ HB hx1
 replace p0:=eq_true p0
 replace q0:=eq_true q0
 refine start_ (n:=12) (S:=fun w'=>c_ w' gb1 0 (.int .i64 x3)∧c_ w' gb1 1 (.int .i64 x4)∧w'.cell? (ad0.add ((x0).toNat*2))=some (.int .i64 ((rd_T36 l0 x0).f0))∧w'.cell? ⟨(ad0.add ((x0).toNat*2)).block,(ad0.add ((x0).toNat*2)).off+1,none⟩=some (.int .i64 ((rd_T36 l0 x0).f1))) (ds:=[]) (m_ 12 0) (by kernel_rfl) rfl rfl ⟨ct BK1 0,ct BK1 1,(hx_ HB hw1 :),(hx_ HB hw0 :)⟩ (fun hHeld=>?_);refine with_tabW carrefourref02_Sum.tab5 carrefourref02_Sum.bits5 (fun HT_ HW_=>?_)
 generalize wr.drew=w0 at BK0 BK1 HB hx0 hx1 hHeld ⊢
 refine pu_ 1 (some 17) (m_ 12 2) rfl rfl (ao HT_) ?_
 refine pu_ 2 (some 18) (m_ 12 6) rfl rfl (ao HT_) ?_
 refine pu_ 3 (some 19) (m_ 12 14) rfl rfl (ao HT_) ?_
 refine tk_ 0 (some 16) (m_ 12 15) rfl rfl (tw HT_ HW_) hHeld ?_
 refine tk_ 4 (some 20) (m_ 12 31) rfl rfl (tw HT_ HW_) hHeld ?_
 refine join_ (σ:=Nat) 2 (m_ 12 1023) (fun s_=>[(21,.tuple #[.agg #[.int .i64 t0,.int .i64 t1],.int .i64 t2]),(6,.pointer (some ⟨s_,0,none⟩)),(15,.tuple #[.agg #[.int .i64 t0,.int .i64 t1],.int .i64 t2]),(22,.agg #[.int .i64 t0,.int .i64 t1]),(23,.int .i64 t2)]) (fun s_ w'=>(c_ w' gb1 0 (.int .i64 x3)∧c_ w' gb1 1 (.int .i64 x4)∧w'.cell? (ad0.add ((x0).toNat*2))=some (.int .i64 ((rd_T36 l0 x0).f0))∧w'.cell? ⟨(ad0.add ((x0).toNat*2)).block,(ad0.add ((x0).toNat*2)).off+1,none⟩=some (.int .i64 ((rd_T36 l0 x0).f1)))∧(w'.heap[gb0]?=some (.cells #[.int .i64 x1,.int .i64 x2] 36 (0,0)))∧(w'.heap[gb1]?=some (.cells #[.int .i64 x3,.int .i64 x4] 36 (0,0)))∧(w'.heap[s_]?=some (.cells #[.int .i64 0,.int .i64 0] 36 (0,0)))∧(w.heap.size≤s_)∧(w.heap.size≤s_)∧(gb0≠s_)∧(s_≠gb0)∧(gb1≠s_)∧(s_≠gb1)∧(Below w.heap.size w w')) ?_ ?_
 rotate_left;{
 intro hCont
 refine two_ (i:=5) (j:=9) (Ni:=some 21) (Nj:=some 6) (m_ 12 63) (m_ 12 543) rfl rfl rfl rfl (two_of HT_.out (by kernel_rfl)) (by decide) (by decide) (fun K hK=>?_) (fun K hK=>?_);{
 skip
 refine gs_ rfl Tryd.func12 (carrefourref02_Add.calls _ _ _ ((rd_T36 l0 x0).f0) ((rd_T36 l0 x0).f1) _ _ _ _ A8.out) ag ?_
 intro w4 hb
 replace BK0:=bb BK0 hb
 replace BK1:=bb BK1 hb
 replace HB:=bs HB hb
 (try clear hb)
 refine hK.out _ _ ⟨ct BK1 0,ct BK1 1,(hx_ HB hw1 :),(hx_ HB hw0 :)⟩ (fun hHeld=>?_)
 clear hK K
 refine nr_ (some 21) ?_
 refine pu_ 6 (some 15) (m_ 12 127) rfl rfl (ao HT_) ?_
 refine pu_ 7 (some 22) (m_ 12 255) rfl rfl (ao HT_) ?_
 refine pu_ 8 (some 23) (m_ 12 511) rfl rfl (ao HT_) ?_
 refine o1_ 9 (some 6) (m_ 12 1023) rfl rfl (oo HT_) (fun K hK=>?_)
 refine box_step ?hg (N:=6) ?hd (cs:=#[.int .i64 0,.int .i64 0]) (t:=36) ?hr ?_;(case hd=>rfl);(case hg=>rfl);(case hr=>first|(go_simp;done)|(go_simp;rfl))
 intro gb2 hg w5 hbox hb
 have BK2:=am (hbox)
 have GW0:=bz HB hg
 have GE2:=bz HB hg
 have NB2:=bl BK0 hg
 have NB3:=bg BK0 hg
 have NB4:=bl BK1 hg
 have NB5:=bg BK1 hg
 replace BK0:=bb BK0 hb
 replace BK1:=bb BK1 hb
 replace HB:=bs HB hb
 clear hb hg
 refine hK.out _ _ ⟨ct BK1 0,ct BK1 1,(hx_ HB hw1 :),(hx_ HB hw0 :)⟩ (fun hHeld=>?_)
 clear hK K
 refine nr_ (some 6) ?_
 exact norm_ (by simp only [putAll,Act.put,si,s0,s1]) (hCont (gb2) _ ⟨hHeld,(bx BK0),(bx BK1),(bx BK2),GW0.out,GE2.out,NB2.out,NB3.out,NB4.out,NB5.out,(bf HB)⟩)};{
 skip
 refine box_step ?hg (N:=6) ?hd (cs:=#[.int .i64 0,.int .i64 0]) (t:=36) ?hr ?_;(case hd=>rfl);(case hg=>rfl);(case hr=>first|(go_simp;done)|(go_simp;rfl))
 intro gb2 hg w4 hbox hb
 have BK2:=am (hbox)
 have GW0:=bz HB hg
 have GE2:=bz HB hg
 have NB2:=bl BK0 hg
 have NB3:=bg BK0 hg
 have NB4:=bl BK1 hg
 have NB5:=bg BK1 hg
 replace BK0:=bb BK0 hb
 replace BK1:=bb BK1 hb
 replace HB:=bs HB hb
 clear hb hg
 refine hK.out _ _ ⟨ct BK1 0,ct BK1 1,(hx_ HB hw1 :),(hx_ HB hw0 :)⟩ (fun hHeld=>?_)
 clear hK K
 refine nr_ (some 6) ?_
 refine o1_ 5 (some 21) (m_ 12 575) rfl rfl (oo HT_) (fun K hK=>?_)
 refine gs_ rfl Tryd.func12 (carrefourref02_Add.calls _ _ _ ((rd_T36 l0 x0).f0) ((rd_T36 l0 x0).f1) _ _ _ _ A8.out) ag ?_
 intro w5 hb
 replace BK0:=bb BK0 hb
 replace BK1:=bb BK1 hb
 replace BK2:=bb BK2 hb
 replace HB:=bs HB hb
 (try clear hb)
 refine hK.out _ _ ⟨ct BK1 0,ct BK1 1,(hx_ HB hw1 :),(hx_ HB hw0 :)⟩ (fun hHeld=>?_)
 clear hK K
 refine nr_ (some 21) ?_
 refine pu_ 6 (some 15) (m_ 12 639) rfl rfl (ao HT_) ?_
 refine pu_ 7 (some 22) (m_ 12 767) rfl rfl (ao HT_) ?_
 refine pu_ 8 (some 23) (m_ 12 1023) rfl rfl (ao HT_) ?_
 exact norm_ (by simp only [putAll,Act.put,si,s0,s1]) (hCont (gb2) _ ⟨hHeld,(bx BK0),(bx BK1),(bx BK2),GW0.out,GE2.out,NB2.out,NB3.out,NB4.out,NB5.out,(bf HB)⟩)}}
 rintro gb2 w6 ⟨hS_,h0,h1,h2,h3,h4,h5,h6,h7,h8,h9⟩
 have n0:Aside0 (w6.heap[gb0]?=some (.cells #[.int .i64 x1,.int .i64 x2] 36 (0,0))):=⟨h0⟩
 have n1:Aside0 (w6.heap[gb1]?=some (.cells #[.int .i64 x3,.int .i64 x4] 36 (0,0))):=⟨h1⟩
 have n2:Aside0 (w6.heap[gb2]?=some (.cells #[.int .i64 0,.int .i64 0] 36 (0,0))):=⟨h2⟩
 have n3:Aside0 (w.heap.size≤gb2):=⟨h3⟩
 have n4:Aside0 (w.heap.size≤gb2):=⟨h4⟩
 have n5:Aside0 (gb0≠gb2):=⟨h5⟩
 have n6:Aside0 (gb2≠gb0):=⟨h6⟩
 have n7:Aside0 (gb1≠gb2):=⟨h7⟩
 have n8:Aside0 (gb2≠gb1):=⟨h8⟩
 have n9:Aside0 (Below w.heap.size w w6):=⟨h9⟩
 clear BK0
 clear BK1
 clear HB
 clear h0 h1 h2 h3 h4 h5 h6 h7 h8 h9
 have BK0:=n0
 have BK1:=n1
 have BK2:=n2
 have GW0:=n3
 have GE2:=n4
 have NB2:=n5
 have NB3:=n6
 have NB4:=n7
 have NB5:=n8
 have HB:=n9
 clear n0 n1 n2 n3 n4 n5 n6 n7 n8 n9
 have hHeld:c_ w6 gb1 0 (.int .i64 x3)∧c_ w6 gb1 1 (.int .i64 x4)∧w6.cell? (ad0.add ((x0).toNat*2))=some (.int .i64 ((rd_T36 l0 x0).f0))∧w6.cell? ⟨(ad0.add ((x0).toNat*2)).block,(ad0.add ((x0).toNat*2)).off+1,none⟩=some (.int .i64 ((rd_T36 l0 x0).f1)):=hS_
 refine norm_ (a':=?_) ?_ ?_
 rotate_left;{
 simp only [putAll,Act.put,si,s0,s1]
 rfl}
 refine o1_ 10 (none) (m_ 12 2047) rfl rfl (oo HT_) (fun K hK=>?_)
 have hs0:c_ w6 gb2 0 (.int .i64 0):=ct BK2 0
 have hfs0:=blk_frozen BK2.out 0
 have hns0:=NB2.out
 have hns1:=NB4.out
 have hms0:=NB3.out
 have hms1:=NB5.out
 have hs1:c_ w6 gb2 1 (.int .i64 0):=ct BK2 1
 have hfs1:=blk_frozen BK2.out 1
 have hns2:=NB2.out
 have hns3:=NB4.out
 have hms2:=NB3.out
 have hms3:=NB5.out
 refine skip_ (w1:=?_) (by rfl) rfl ?_ ?_
 rotate_left;{
 go_simp
 rfl}
 refine hK.out _ _ (by obtain ⟨d0,d1,d2,d3⟩:=hHeld;exact ⟨fa_ NB4 (fa_ NB4 d0),fa_ NB4 (fa_ NB4 d1),fb_ hw1 GW0 (fb_ hw1 GW0 d2),fb_ hw0 GW0 (fb_ hw0 GW0 d3)⟩) (fun hHeld=>?_)
 clear hK K
 refine pu_ 11 (some 7) (m_ 12 4095) rfl rfl (ao HT_) ?_
 refine done_ (done_of HT_.out (by kernel_rfl)) ?_
 have hnb0:=nn NB3
 have hnb1:=nn NB5
 have hcz0:=X.k2 BK2
 have hnb2:=nn NB1
 have hcz1:=X.k2 BK1
 try go_wp2
 go_roundg k1
 case measure=>have:=HK1.out;omega
 case rel=>exact ⟨(wrap64 (x0+1)),(x1),(x2),(t0),(t1),(aq),H',⟨by have:=HK1.out;omega⟩,bu_ BK0,bq_ BK1,⟨bf HB⟩⟩};{
 rw [if_neg c9] at H
 have c5:(t2==0)=false:=beq_eq_false_iff_ne.mpr c9
 have c8:(t2 != 0)=true:=bne_iff_ne.mpr c9
 simp only [Option.some.injEq,Prod.mk.injEq] at H
 obtain ⟨rfl,rfl,rfl⟩:=H
 try go_wp2
 replace BK0:=am (blk_drew BK0.out)
 replace BK1:=am (blk_drew BK1.out)
 replace HB:=am (below_drew1 HB.out)
 have p0:0≤(x0:Int):=od_
 have q0:x0<(l0.length:Int):=od_
 obtain ⟨ad0,e0,hx0,hx1⟩:=at_T36 HR0.out x0 p0 q0
 have hw0:=hx1
 have hw1:=hx0
 cases e0
 replace hx0:=hx_ HB hx0
 replace hx1:=hx_ HB hx1
 replace p0:=eq_true p0
 replace q0:=eq_true q0
 refine start_ (n:=12) (S:=fun w'=>c_ w' gb1 0 (.int .i64 x3)∧c_ w' gb1 1 (.int .i64 x4)∧w'.cell? (ad0.add ((x0).toNat*2))=some (.int .i64 ((rd_T36 l0 x0).f0))∧w'.cell? ⟨(ad0.add ((x0).toNat*2)).block,(ad0.add ((x0).toNat*2)).off+1,none⟩=some (.int .i64 ((rd_T36 l0 x0).f1))) (ds:=[]) (m_ 12 0) (by kernel_rfl) rfl rfl ⟨ct BK1 0,ct BK1 1,(hx_ HB hw1 :),(hx_ HB hw0 :)⟩ (fun hHeld=>?_);refine with_tabW carrefourref02_Sum.tab5 carrefourref02_Sum.bits5 (fun HT_ HW_=>?_)
 generalize wr.drew=w7 at BK0 BK1 HB hx0 hx1 hHeld ⊢
 refine pu_ 1 (some 17) (m_ 12 2) rfl rfl (ao HT_) ?_
 refine pu_ 2 (some 18) (m_ 12 6) rfl rfl (ao HT_) ?_
 refine pu_ 3 (some 19) (m_ 12 14) rfl rfl (ao HT_) ?_
 refine tk_ 0 (some 16) (m_ 12 15) rfl rfl (tw HT_ HW_) hHeld ?_
 refine tk_ 4 (some 20) (m_ 12 31) rfl rfl (tw HT_ HW_) hHeld ?_
 refine join_ (σ:=Nat) 2 (m_ 12 1023) (fun s_=>[(21,.tuple #[.agg #[.int .i64 t0,.int .i64 t1],.int .i64 t2]),(6,.pointer (some ⟨s_,0,none⟩)),(15,.tuple #[.agg #[.int .i64 t0,.int .i64 t1],.int .i64 t2]),(22,.agg #[.int .i64 t0,.int .i64 t1]),(23,.int .i64 t2)]) (fun s_ w'=>(c_ w' gb1 0 (.int .i64 x3)∧c_ w' gb1 1 (.int .i64 x4)∧w'.cell? (ad0.add ((x0).toNat*2))=some (.int .i64 ((rd_T36 l0 x0).f0))∧w'.cell? ⟨(ad0.add ((x0).toNat*2)).block,(ad0.add ((x0).toNat*2)).off+1,none⟩=some (.int .i64 ((rd_T36 l0 x0).f1)))∧(w'.heap[gb0]?=some (.cells #[.int .i64 x1,.int .i64 x2] 36 (0,0)))∧(w'.heap[gb1]?=some (.cells #[.int .i64 x3,.int .i64 x4] 36 (0,0)))∧(w'.heap[s_]?=some (.cells #[.int .i64 0,.int .i64 0] 36 (0,0)))∧(w.heap.size≤s_)∧(w.heap.size≤s_)∧(gb0≠s_)∧(s_≠gb0)∧(gb1≠s_)∧(s_≠gb1)∧(Below w.heap.size w w')) ?_ ?_
 rotate_left;{
 intro hCont
 refine two_ (i:=5) (j:=9) (Ni:=some 21) (Nj:=some 6) (m_ 12 63) (m_ 12 543) rfl rfl rfl rfl (two_of HT_.out (by kernel_rfl)) (by decide) (by decide) (fun K hK=>?_) (fun K hK=>?_);{
 skip
 refine gs_ rfl Tryd.func12 (carrefourref02_Add.calls _ _ _ ((rd_T36 l0 x0).f0) ((rd_T36 l0 x0).f1) _ _ _ _ A8.out) ag ?_
 intro w8 hb
 replace BK0:=bb BK0 hb
 replace BK1:=bb BK1 hb
 replace HB:=bs HB hb
 (try clear hb)
 refine hK.out _ _ ⟨ct BK1 0,ct BK1 1,(hx_ HB hw1 :),(hx_ HB hw0 :)⟩ (fun hHeld=>?_)
 clear hK K
 refine nr_ (some 21) ?_
 refine pu_ 6 (some 15) (m_ 12 127) rfl rfl (ao HT_) ?_
 refine pu_ 7 (some 22) (m_ 12 255) rfl rfl (ao HT_) ?_
 refine pu_ 8 (some 23) (m_ 12 511) rfl rfl (ao HT_) ?_
 refine o1_ 9 (some 6) (m_ 12 1023) rfl rfl (oo HT_) (fun K hK=>?_)
 refine box_step ?hg (N:=6) ?hd (cs:=#[.int .i64 0,.int .i64 0]) (t:=36) ?hr ?_;(case hd=>rfl);(case hg=>rfl);(case hr=>first|(go_simp;done)|(go_simp;rfl))
 intro gb2 hg w9 hbox hb
 have BK2:=am (hbox)
 have GW0:=bz HB hg
 have GE2:=bz HB hg
 have NB2:=bl BK0 hg
 have NB3:=bg BK0 hg
 have NB4:=bl BK1 hg
 have NB5:=bg BK1 hg
 replace BK0:=bb BK0 hb
 replace BK1:=bb BK1 hb
 replace HB:=bs HB hb
 clear hb hg
 refine hK.out _ _ ⟨ct BK1 0,ct BK1 1,(hx_ HB hw1 :),(hx_ HB hw0 :)⟩ (fun hHeld=>?_)
 clear hK K
 refine nr_ (some 6) ?_
 exact norm_ (by simp only [putAll,Act.put,si,s0,s1]) (hCont (gb2) _ ⟨hHeld,(bx BK0),(bx BK1),(bx BK2),GW0.out,GE2.out,NB2.out,NB3.out,NB4.out,NB5.out,(bf HB)⟩)};{
 skip
 refine box_step ?hg (N:=6) ?hd (cs:=#[.int .i64 0,.int .i64 0]) (t:=36) ?hr ?_;(case hd=>rfl);(case hg=>rfl);(case hr=>first|(go_simp;done)|(go_simp;rfl))
 intro gb2 hg w8 hbox hb
 have BK2:=am (hbox)
 have GW0:=bz HB hg
 have GE2:=bz HB hg
 have NB2:=bl BK0 hg
 have NB3:=bg BK0 hg
 have NB4:=bl BK1 hg
 have NB5:=bg BK1 hg
 replace BK0:=bb BK0 hb
 replace BK1:=bb BK1 hb
 replace HB:=bs HB hb
 clear hb hg
 refine hK.out _ _ ⟨ct BK1 0,ct BK1 1,(hx_ HB hw1 :),(hx_ HB hw0 :)⟩ (fun hHeld=>?_)
 clear hK K
 refine nr_ (some 6) ?_
 refine o1_ 5 (some 21) (m_ 12 575) rfl rfl (oo HT_) (fun K hK=>?_)
 refine gs_ rfl Tryd.func12 (carrefourref02_Add.calls _ _ _ ((rd_T36 l0 x0).f0) ((rd_T36 l0 x0).f1) _ _ _ _ A8.out) ag ?_
 intro w9 hb
 replace BK0:=bb BK0 hb
 replace BK1:=bb BK1 hb
 replace BK2:=bb BK2 hb
 replace HB:=bs HB hb
 (try clear hb)
 refine hK.out _ _ ⟨ct BK1 0,ct BK1 1,(hx_ HB hw1 :),(hx_ HB hw0 :)⟩ (fun hHeld=>?_)
 clear hK K
 refine nr_ (some 21) ?_
 refine pu_ 6 (some 15) (m_ 12 639) rfl rfl (ao HT_) ?_
 refine pu_ 7 (some 22) (m_ 12 767) rfl rfl (ao HT_) ?_
 refine pu_ 8 (some 23) (m_ 12 1023) rfl rfl (ao HT_) ?_
 exact norm_ (by simp only [putAll,Act.put,si,s0,s1]) (hCont (gb2) _ ⟨hHeld,(bx BK0),(bx BK1),(bx BK2),GW0.out,GE2.out,NB2.out,NB3.out,NB4.out,NB5.out,(bf HB)⟩)}}
 rintro gb2 w24 ⟨hS_,h0,h1,h2,h3,h4,h5,h6,h7,h8,h9⟩
 have n0:Aside0 (w24.heap[gb0]?=some (.cells #[.int .i64 x1,.int .i64 x2] 36 (0,0))):=⟨h0⟩
 have n1:Aside0 (w24.heap[gb1]?=some (.cells #[.int .i64 x3,.int .i64 x4] 36 (0,0))):=⟨h1⟩
 have n2:Aside0 (w24.heap[gb2]?=some (.cells #[.int .i64 0,.int .i64 0] 36 (0,0))):=⟨h2⟩
 have n3:Aside0 (w.heap.size≤gb2):=⟨h3⟩
 have n4:Aside0 (w.heap.size≤gb2):=⟨h4⟩
 have n5:Aside0 (gb0≠gb2):=⟨h5⟩
 have n6:Aside0 (gb2≠gb0):=⟨h6⟩
 have n7:Aside0 (gb1≠gb2):=⟨h7⟩
 have n8:Aside0 (gb2≠gb1):=⟨h8⟩
 have n9:Aside0 (Below w.heap.size w w24):=⟨h9⟩
 clear BK0
 clear BK1
 clear HB
 clear h0 h1 h2 h3 h4 h5 h6 h7 h8 h9
 have BK0:=n0
 have BK1:=n1
 have BK2:=n2
 have GW0:=n3
 have GE2:=n4
 have NB2:=n5
 have NB3:=n6
 have NB4:=n7
 have NB5:=n8
 have HB:=n9
 clear n0 n1 n2 n3 n4 n5 n6 n7 n8 n9
 have hHeld:c_ w24 gb1 0 (.int .i64 x3)∧c_ w24 gb1 1 (.int .i64 x4)∧w24.cell? (ad0.add ((x0).toNat*2))=some (.int .i64 ((rd_T36 l0 x0).f0))∧w24.cell? ⟨(ad0.add ((x0).toNat*2)).block,(ad0.add ((x0).toNat*2)).off+1,none⟩=some (.int .i64 ((rd_T36 l0 x0).f1)):=hS_
 refine norm_ (a':=?_) ?_ ?_
 rotate_left;{
 simp only [putAll,Act.put,si,s0,s1]
 rfl}
 refine o1_ 10 (none) (m_ 12 2047) rfl rfl (oo HT_) (fun K hK=>?_)
 have hs2:c_ w24 gb2 0 (.int .i64 0):=ct BK2 0
 have hfs2:=blk_frozen BK2.out 0
 have hns4:=NB2.out
 have hns5:=NB4.out
 have hms4:=NB3.out
 have hms5:=NB5.out
 have hs3:c_ w24 gb2 1 (.int .i64 0):=ct BK2 1
 have hfs3:=blk_frozen BK2.out 1
 have hns6:=NB2.out
 have hns7:=NB4.out
 have hms6:=NB3.out
 have hms7:=NB5.out
 refine skip_ (w1:=?_) (by rfl) rfl ?_ ?_
 rotate_left;{
 go_simp
 rfl}
 refine hK.out _ _ (by obtain ⟨d0,d1,d2,d3⟩:=hHeld;exact ⟨fa_ NB4 (fa_ NB4 d0),fa_ NB4 (fa_ NB4 d1),fb_ hw1 GW0 (fb_ hw1 GW0 d2),fb_ hw0 GW0 (fb_ hw0 GW0 d3)⟩) (fun hHeld=>?_)
 clear hK K
 refine pu_ 11 (some 7) (m_ 12 4095) rfl rfl (ao HT_) ?_
 refine done_ (done_of HT_.out (by kernel_rfl)) ?_
 have hnb3:=nn NB0
 have hnb5:=nn NB2
 have hcz2:=X.k2 BK0
 try go_wp2
 refine bodyPost_ret (results_ct rfl _ _ gb0 36 #[.int .i64 0,.int .i64 0] (0,0) _ rfl (br_ BK0) Tryd.underlying36 rfl (by kernel_rfl)) rfl ?_
 exact ⟨ae,bf HB⟩}};{
 rw [if_neg c7] at H
 exact absurd H (by simp)}};{
 rw [if_neg c6] at H
 have c2:decide (x0<(l0.length:Int))=false:=decide_eq_false c6
 clear c6
 simp only [Option.some.injEq,Prod.mk.injEq] at H
 obtain ⟨rfl,rfl,rfl⟩:=H
 have hnb6:=nn NB1
 have hcz3:=X.k2 BK1
 have hcz4:=X.k2 BK0
 go_wp2
 refine bodyPost_ret (results_ct rfl _ _ gb0 36 #[.int .i64 x3,.int .i64 x4] (0,0) _ rfl (br_ BK0) Tryd.underlying36 rfl (by kernel_rfl)) rfl ?_
 exact ⟨ae,bf HB⟩}}}
theorem carrefourref01_sign.calls (k:Nat) (a0:Int) (a1:Int) (r:Int) (w:World) (h:carrefourref01_sign.f k a0 a1=some r) :
  Calls Tryd.prog 43 #[.int .i64 a0,.int .i64 a1] w fun e w'=>e=.returned (.int .i64 r)∧Drawn0 w w':=by
 have H:(if a0=0 then (carrefourref01_sign.j0 k a0 a1 true) else (carrefourref01_sign.j0 k a0 a1 (a1==0)))=some r:=h
 clear h
 have HC3:=am H
 clear H
 go_enter Tryd.func43,Tryd.ntmps43
 go_upto_region 1 with (fail)
 go_cut [10] (fun v0 wc=>∃ (kq:Nat) (x0:Bool),v0=.bool x0∧Aside0 (carrefourref01_sign.j0 kq a0 a1 x0=some r)∧Aside0 (kq≤k)∧Drawn0 w wc)
 case first =>skip;{
 have H:=HC3.out
 clear HC3
 by_cases c4:a0=0;{
 rw [if_pos c4] at H
 have c0:(a0==0)=true:=beq_iff_eq.mpr c4
 have c1:(a0 != 0)=false:=bne_eq_false_iff_eq.mpr c4
 clear c4
 (first|rw [c0]|(simp only [i64_w,i32_w];rw [c0])|skip)
 have H':=am H
 clear H
 go_wp2
 go_meet
 case rel=>exact ⟨_,(true),(aq),H',⟨by first|omega|exact Nat.le_refl _⟩,dr⟩};{
 rw [if_neg c4] at H
 have c0:(a0==0)=false:=beq_eq_false_iff_ne.mpr c4
 have c1:(a0 != 0)=true:=bne_iff_ne.mpr c4
 (first|rw [c0]|(simp only [i64_w,i32_w];rw [c0])|skip)
 have H':=am H
 clear H
 go_wp2
 go_meet
 case rel=>exact ⟨_,((a1==0)),(aq),H',⟨by first|omega|exact Nat.le_refl _⟩,dr⟩}}
 case rest =>skip;{
 clear HC3
 (try clear p2);(try clear c4);(try clear c0);(try clear c1)
 obtain ⟨kq,x0,rfl,HA,HJ2,⟨mc2,rfl⟩⟩:=hcut
 cases kq with
 | zero=>exact absurd HA.out (by simp [carrefourref01_sign.j0])
 | succ kj2 =>skip;{
 have H:=HA.out
 clear HA
 simp only [carrefourref01_sign.j0] at H
 by_cases c5:x0=true;{
 subst c5
 have H1:(some 0)=some r:=by rw [if_pos rfl] at H;exact H
 clear H
 have H:=H1
 clear H1
 obtain rfl:=Option.some.inj H
 go_wp2
 go_ret
 exact ⟨aq,dr⟩};{
 replace c5:=Bool.eq_false_iff.mpr c5
 subst c5
 have H1:(if ((decide (a0<0)) != (decide (a1<0)))=true then (some (-1)) else (some 1))=some r:=by rw [if_neg (show ¬ (false=true) by decide)] at H;exact H
 clear H
 have H:=H1
 clear H1
 by_cases c6:((decide (a0<0)) != (decide (a1<0)))=true;{
 rw [if_pos c6] at H
 have c2:((decide (a0<0)) != (decide (a1<0)))=true:=c6
 (try (have c3:decide ((decide (a0<0))=(decide (a1<0)))=false:=by simpa using c6))
 (try (have c7:((decide (a0<0))==(decide (a1<0)))=false:=by simpa using c6))
 (try (have c8:¬ ((decide (a0<0))=(decide (a1<0))):=by simpa using c6))
 clear c6
 obtain rfl:=Option.some.inj H
 go_wp2
 go_ret
 exact ⟨aq,dr⟩};{
 rw [if_neg c6] at H
 have c2:((decide (a0<0)) != (decide (a1<0)))=false:=by simpa using c6
 (try (have c3:decide ((decide (a0<0))=(decide (a1<0)))=true:=by simpa using c6))
 (try (have c7:((decide (a0<0))==(decide (a1<0)))=true:=by simpa using c6))
 clear c6
 obtain rfl:=Option.some.inj H
 go_wp2
 go_ret
 exact ⟨aq,dr⟩}}}}
end Go.Proofs.YtenphnkiacfmiaaDoor.X
