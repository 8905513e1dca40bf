/- Walks: each '.calls' says that the Go function comes to what its Lean function tells. Conditions: as each theorem's head says. -/
import Derived.Test.YtenphnkiacfmiaaDoorXD
import Derived.Test.YtenphnkiacfmiaaDoorX0
import Derived.Test.YtenphnkiacfmiaaDoorX17
import Derived.Test.YtenphnkiacfmiaaDoorX21
import Derived.Test.YtenphnkiacfmiaaDoorX22
namespace Go.Proofs.YtenphnkiacfmiaaDoor.X
open Go.RowKit Go.Proofs.YtenphnkiacfmiaaDoorW.PrintWords Go.Proofs.YtenphnkiacfmiaaDoorW.PrintLast Go.Proofs.YtenphnkiacfmiaaDoorW.PrintMore
attribute [local go_sem] max2_int min2_int max_two min_two max_three min_three max_four min_four
set_option linter.unusedVariables false
set_option maxHeartbeats 8000000
set_option maxRecDepth 100000
set_option linter.unusedSimpArgs false
theorem carrefourref02_divided.calls (k:Nat) (P0:Nat→Prop) (A0:Option Addr) (c0:Nat) (l0:List Int) (P1:Nat→Prop) (A1:Option Addr) (c1:Nat) (l1:List Int) (r1:Int) (r2:Bool) (w:World) (hs0:Kd.V (Kd.int .u64) 78 w w.heap.size (fun k_=>P0 k_) (.slice A0 l0.length c0) l0) (hs1:Kd.V (Kd.int .u64) 78 w w.heap.size (fun k_=>P1 k_) (.slice A1 l1.length c1) l1) (h:carrefourref02_divided.f k l0 l1=some (r1,r2)) :
  Calls Tryd.prog 47 #[.slice A0 l0.length c0,.slice A1 l1.length c1] w fun e w'=>e=.returned (.tuple #[.int .u64 r1,.bool r2])∧Below w.heap.size w w':=by
 have HO0:=am (show Kd.V (Kd.int .u64) 78 w w.heap.size (fun k_=>((P0 k_∨P1 k_)∨w.heap.size≤k_)) (.slice A0 l0.length c0) l0 from Kd.V_mono hs0 (fun k_ hk=>.inl (.inl hk)))
 have HO1:=am (show Kd.V (Kd.int .u64) 78 w w.heap.size (fun k_=>((P0 k_∨P1 k_)∨w.heap.size≤k_)) (.slice A1 l1.length c1) l1 from Kd.V_mono hs1 (fun k_ hk=>.inl (.inr hk)))
 have HB:=am (Below.refl w.heap.size w)
 have H:(carrefourref02_divided.l0 k l0 0 ([]:List (List Int)) l1)=some (r1,r2):=h
 clear h
 have H':=am H
 clear H
 go_enter Tryd.func47,Tryd.ntmps47
 go_wp2
 go_loopg [7,8] k (fun kq v7 v8 w'=>∃ (x0:List (List Int)) (x1:List Int),Aside0 (carrefourref02_divided.l0 kq l0 0 x0 x1=some (r1,r2))∧Aside0 (kq≤k)∧Aside0 (Kd.V (Kd.int .u64) 78 w' w.heap.size (fun k_=>((P0 k_∨P1 k_)∨w.heap.size≤k_)∧some k_≠(v7:Value).ownBlock) (.slice A0 l0.length c0) l0)∧Aside0 (Kd.N (Kd.slice 78 (Kd.int .u64)) 75 w' w.heap.size (fun k_=>((P0 k_∨P1 k_)∨w.heap.size≤k_)) v7 x0)∧Aside0 (Kd.V (Kd.int .u64) 78 w' w.heap.size (fun k_=>((P0 k_∨P1 k_)∨w.heap.size≤k_)∧some k_≠(v7:Value).ownBlock) v8 x1)∧Aside0 (Below w.heap.size w w'))
 case atStart=>exact ⟨(([]:List (List Int))),(l1),H',⟨Nat.le_refl _⟩,⟨Vt_ (Kd.V_mono HO0.out (fun _ hk=>⟨hk,(by simp [Value.ownBlock])⟩))⟩,⟨by first|exact Kd.S_nil _ _ _ _ _|exact Kd.N_nil _ _ _ _ _|exact Kd.V_nil _ _ _ _ _|exact Kd.Q_nil _ _ _ _ _|exact Kd.R_nil _ _ _ _ _⟩,⟨Vt_ (Kd.V_mono HO1.out (fun _ hk=>⟨hk,(by simp [Value.ownBlock])⟩))⟩,⟨bf HB⟩⟩
 case round =>skip;{
 clear H'
 (try clear c1);(try clear p2)
 obtain ⟨x0,x1,HA,HK1,HO2,HO3,HO4,HB⟩:=hrel
 cases gk with
 | zero=>exact absurd HA.out (by simp [carrefourref02_divided.l0])
 | succ k1 =>skip;{
 have H:=HA.out
 clear HA
 simp only [carrefourref02_divided.l0] at H
 replace H:=bi_ H;obtain ⟨t0,A3,H⟩:=H
 (try dsimp only at H)
 by_cases c4:t0≤0;{
 rw [if_pos c4] at H
 have c2:decide (t0≤0)=true:=decide_eq_true c4
 clear c4
 by_cases c5:x0.length<5864062014805;{
 rw [if_pos c5] at H
 have LMc5:=am c5
 clear c5
 obtain ⟨y0,hy0⟩:∃ y_:List (List Int),y_=(x0++[x1]):=⟨_,rfl⟩
 replace H:((carrefourref02_twice.f k1 x1).bind fun t1=>(carrefourref02_divided.l0 k1 l0 0 y0 t1))=some (r1,r2):=by first|(rw [hy0];with_reducible exact H)|(have H0:=(Option.bind_some _ _).symm.trans H;rw [hy0];with_reducible exact H0)|(have H0:=(Option.bind_some _ _).symm.trans H;with_reducible exact H0)|with_reducible exact H|(rw [hy0];exact H)|exact H
 have Ny0:=am hy0
 clear hy0
 replace H:=bi_ H;obtain ⟨t1,A6,H⟩:=H
 (try dsimp only at H)
 have H':=am H
 clear H
 obtain ⟨Ao7,co7,eo7⟩:=Kd.V_slice HO4.out
 subst eo7
 go_wp2_with (first|((with_reducible refine gc 33 rfl ?_);refine gm_ (some 13) rfl rfl Tryd.func33 (carrefourref01_Order.calls _ _ _ _ _ _ _ _ _ ?side1 ?side2 ?side3 ?side4 A3.out) ag ?_;(case side1=>repeat (first|exact (Kd.V_reads' HO4.out).2.2|(with_reducible refine Kd.C_alloc ?_ _)|(with_reducible refine Kd.C_drewN ?_ _)|(with_reducible refine Kd.C_drew ?_)));(case side2=>exact (Kd.V_reads' HO4.out).2.1);(case side3=>repeat (first|exact (Kd.V_reads' HO2.out).2.2|(with_reducible refine Kd.C_alloc ?_ _)|(with_reducible refine Kd.C_drewN ?_ _)|(with_reducible refine Kd.C_drew ?_)));(case side4=>exact (Kd.V_reads' HO2.out).2.1);intro w8 hb;replace HO2:=am (Kd.V_below (Vt_ HO2.out) hb);replace HO3:=am (Kd.N_below (Nt_ HO3.out) hb);replace HO4:=am (Kd.V_below (Vt_ HO4.out) hb);replace HB:=bs HB hb;(try clear hb))|((with_reducible refine gate_builtin (b:=.append) (xs:=#[.tmp 17,.tmp 19]) rfl ?_);at_builtin;refine Kd.N_append (Kd.slice 78 (Kd.int .u64)) (w0:=w) w.heap.size rfl (.tmp 17) (.tmp 19) 111 75 (.slice none 0 0) 24 rfl Tryd.underlying111 info75 rfl (by decide) (by omega) u7 x0 x1 [.slice Ao7 x1.length co7] (fun k_=>((P0 k_∨P1 k_)∨w.heap.size≤k_)) (fun k_=>((fun k_=>((P0 k_∨P1 k_)∨w.heap.size≤k_))) k_∧some k_≠(u7:Value).ownBlock) rfl rfl ?aP (fun _ hk=>hk) ?aF ?aO ?aB ?aS ?aL ?_;(case aP=>exact (Kd.FK_slice_mk (Kd.V_reads' (Kd.V_mono (ok':=(fun k_=>((fun k_=>((P0 k_∨P1 k_)∨w.heap.size≤k_))) k_∧some k_≠(u7:Value).ownBlock)) (HO4.out) (fun k_ hk=>⟨hk.1,hk.2⟩))).2.1 (Kd.V_F (Kd.V_mono (ok':=(fun k_=>((fun k_=>((P0 k_∨P1 k_)∨w.heap.size≤k_))) k_∧some k_≠(u7:Value).ownBlock)) (HO4.out) (fun k_ hk=>⟨hk.1,hk.2⟩)))));(case aB=>exact (bf HB));(case aF=>exact (fun k_ hk=>(.inr (Nat.le_trans (below_size (bf HB)) hk))));(case aO=>exact (Nt_ HO3.out));(case aS=>exact (below_size (bf HB)));(case aL=>have:=LMc5.out;omega);intro v1 w9 ho hb hg hat;rw [← Ny0.out] at ho;have n0:=am (Kd.V_afterv (ok:=(fun k_=>((P0 k_∨P1 k_)∨w.heap.size≤k_))) (Vt_ HO2.out) hg hat);have n1:=am (Kd.V_afterv (ok:=(fun k_=>((P0 k_∨P1 k_)∨w.heap.size≤k_))) (Vt_ HO4.out) hg hat);have n2:=am (hb);have n3:=am (ho);clear HO2;clear HO4;clear HB;clear HO3;have HO2:=n0;have HO4:=n1;have HB:=n2;have HO5:=n3;clear n0 n1 n2 n3;clear ho hb hg hat)|((with_reducible refine gc 55 rfl ?_);refine gl_ (some 16) rfl rfl Tryd.func55 ((carrefourref02_twice.calls _ _ _ _ _ _ ?side1 ?side2 A6.out).mono ?_) ag;(case side1=>repeat (first|exact (Kd.V_reads' HO4.out).2.2|(with_reducible refine Kd.C_alloc ?_ _)|(with_reducible refine Kd.C_drewN ?_ _)|(with_reducible refine Kd.C_drew ?_)));(case side2=>exact (Kd.V_reads' HO4.out).2.1);rintro e w1 ⟨v2,rfl,ho0,hb⟩;refine ⟨_,rfl,?_⟩;have HO6:=am (Kd.R_lower (Kd.R_newM (M:=fun k_=>(w.heap.size≤k_)) ho0 (below_size (bf HB)) (fun k_ h_=>h_)) (below_size (bf HB)));replace HO2:=am (Kd.V_elder' (Vt_ HO2.out) (Kd.R_base ho0) hb);replace HO4:=am (Kd.V_elder' (Vt_ HO4.out) (Kd.R_base ho0) hb);replace HO5:=am (Kd.N_elder' (Nt_ HO5.out) (Kd.R_base ho0) hb);replace HB:=bs HB hb;(try clear hb);(try clear ho0)))
 go_roundg k1
 case measure=>have:=HK1.out;omega
 case rel=>exact ⟨(y0),(t1),H',⟨by have:=HK1.out;omega⟩,⟨Vt_ (Kd.V_mono HO2.out (fun _ hk=>And.intro hk.1.1 hk.1.2))⟩,⟨Nt_ (Kd.N_mono HO5.out (fun _ hk=>hk.1))⟩,⟨Kd.V_mono (Kd.R_V (Rt_ (Kd.R_mono (Kd.R_apart' HO6.out (Kd.N_typed HO5.out) (by decide)) (fun _ hk=>And.intro hk.1.1 hk.2)))) (fun k_ hk=>by first|exact ⟨(.inr (hk.1)),hk.2⟩|exact (.inr (hk)))⟩,⟨bf HB⟩⟩};{
 rw [if_neg c5] at H
 exact absurd H (by simp)}};{
 rw [if_neg c4] at H
 have c2:decide (t0≤0)=false:=decide_eq_false c4
 clear c4
 by_cases c6:(x0.length:Int)>64;{
 rw [if_pos c6] at H
 have c7:decide (64<(x0.length:Int))=true:=decide_eq_true c6
 have c8:decide (64<x0.length)=true:=decide_eq_true (by omega)
 clear c6
 simp only [Option.some.injEq,Prod.mk.injEq] at H
 obtain ⟨rfl,rfl⟩:=H
 obtain ⟨Ao0,co0,eo0⟩:=Kd.V_slice HO4.out
 subst eo0
 go_wp2_with (first|((with_reducible refine gc 33 rfl ?_);refine gm_ (some 13) rfl rfl Tryd.func33 (carrefourref01_Order.calls _ _ _ _ _ _ _ _ _ ?side1 ?side2 ?side3 ?side4 A3.out) ag ?_;(case side1=>repeat (first|exact (Kd.V_reads' HO4.out).2.2|(with_reducible refine Kd.C_alloc ?_ _)|(with_reducible refine Kd.C_drewN ?_ _)|(with_reducible refine Kd.C_drew ?_)));(case side2=>exact (Kd.V_reads' HO4.out).2.1);(case side3=>repeat (first|exact (Kd.V_reads' HO2.out).2.2|(with_reducible refine Kd.C_alloc ?_ _)|(with_reducible refine Kd.C_drewN ?_ _)|(with_reducible refine Kd.C_drew ?_)));(case side4=>exact (Kd.V_reads' HO2.out).2.1);intro w2 hb;replace HO2:=am (Kd.V_below (Vt_ HO2.out) hb);replace HO3:=am (Kd.N_below (Nt_ HO3.out) hb);replace HO4:=am (Kd.V_below (Vt_ HO4.out) hb);replace HB:=bs HB hb;(try clear hb);obtain ⟨Ao1,co1,eo1⟩:=Kd.N_slice HO3.out;subst eo1))
 go_ret2
 exact ⟨ae,bf HB⟩};{
 rw [if_neg c6] at H
 have c7:decide (64<(x0.length:Int))=false:=decide_eq_false c6
 have c8:decide (64<x0.length)=false:=decide_eq_false (by omega)
 clear c6
 have H':=am H
 clear H
 obtain ⟨Ao2,co2,eo2⟩:=Kd.V_slice HO4.out
 subst eo2
 go_wp2_with (first|((with_reducible refine gc 33 rfl ?_);refine gm_ (some 13) rfl rfl Tryd.func33 (carrefourref01_Order.calls _ _ _ _ _ _ _ _ _ ?side1 ?side2 ?side3 ?side4 A3.out) ag ?_;(case side1=>repeat (first|exact (Kd.V_reads' HO4.out).2.2|(with_reducible refine Kd.C_alloc ?_ _)|(with_reducible refine Kd.C_drewN ?_ _)|(with_reducible refine Kd.C_drew ?_)));(case side2=>exact (Kd.V_reads' HO4.out).2.1);(case side3=>repeat (first|exact (Kd.V_reads' HO2.out).2.2|(with_reducible refine Kd.C_alloc ?_ _)|(with_reducible refine Kd.C_drewN ?_ _)|(with_reducible refine Kd.C_drew ?_)));(case side4=>exact (Kd.V_reads' HO2.out).2.1);intro w3 hb;replace HO2:=am (Kd.V_below (Vt_ HO2.out) hb);replace HO3:=am (Kd.N_below (Nt_ HO3.out) hb);replace HO4:=am (Kd.V_below (Vt_ HO4.out) hb);replace HB:=bs HB hb;(try clear hb);obtain ⟨Ao3,co3,eo3⟩:=Kd.N_slice HO3.out;subst eo3))
 go_loopg [0,6,9] k1 (fun kq v0 v6 v9 w'=>∃ (x2:List Int) (x3:Int) (x4:Int),v6=.int .u64 x3∧v9=.int .i64 x4∧Aside0 (carrefourref02_divided.l1 kq x2 x3 x0 x4=some (r1,r2))∧Aside0 (kq≤k1)∧Aside0 (Kd.V (Kd.int .u64) 78 w' w.heap.size (fun k_=>((P0 k_∨P1 k_)∨w.heap.size≤k_)∧some k_≠((.slice Ao3 x0.length co3):Value).ownBlock) v0 x2)∧Aside0 (Kd.N (Kd.slice 78 (Kd.int .u64)) 75 w' w.heap.size (fun k_=>((P0 k_∨P1 k_)∨w.heap.size≤k_)) (.slice Ao3 x0.length co3) x0)∧Aside0 (Below w.heap.size w w'))
 case atStart=>exact ⟨(l0),(0),(wrap64 ((x0.length:Int)-1)),(aq),(aq),H',⟨Nat.le_refl _⟩,⟨Vt_ HO2.out⟩,⟨Nt_ HO3.out⟩,⟨bf HB⟩⟩
 case round =>skip;{
 clear H'
 (try clear c1);(try clear p2);(try clear c3);(try clear c4);(try clear c2);(try clear c5);(try clear p6);(try clear c6);(try clear c7);(try clear c8);(try clear p2)
 obtain ⟨x2,x3,x4,rfl,rfl,HA,HK2,HO2,HO3,HB⟩:=hrel
 cases gk with
 | zero=>exact absurd HA.out (by simp [carrefourref02_divided.l1])
 | succ k2 =>skip;{
 have H:=HA.out
 clear HA
 simp only [carrefourref02_divided.l1] at H
 by_cases c9:x4≥0;{
 rw [if_pos c9] at H
 have c10:decide (0≤x4)=true:=decide_eq_true c9
 clear c9
 by_cases c19:0≤x4;{
 rw [if_pos c19] at H
 have c13:decide (0≤x4)=true:=decide_eq_true c19
 clear c19
 by_cases c20:x4<(x0.length:Int);{
 rw [if_pos c20] at H
 have c15:decide (x4<(x0.length:Int))=true:=decide_eq_true c20
 clear c20
 replace H:=bi_ H;obtain ⟨t2,A2,H⟩:=H
 (try dsimp only at H)
 by_cases c22:t2≤0;{
 rw [if_pos c22] at H
 have c17:decide (t2≤0)=true:=decide_eq_true c22
 clear c22
 replace H:=bi_ H;obtain ⟨t3,A4,H⟩:=H
 (try dsimp only at H)
 replace H:=bi_ H;obtain ⟨t4,A5,H⟩:=H
 (try dsimp only at H)
 have H':=am H
 clear H
 have p0:0≤(x4:Int):=od_
 have q0:x4<(x0.length:Int):=od_
 obtain ⟨ad0,A7,c21,e0,hx0,hl0,hi0⟩:=at_L20 (Kd.N_reads' HO3.out).2.2 x4 p0 q0
 cases e0
 obtain ⟨ce0,hce0,hMe0,hcc0⟩:=Kd.N_get HO3.out [] x4 p0 (by first|exact q0|exact od_|(have e_:=(Kd.N_reads' HO3.out).1;omega))
 obtain ⟨ua0,uc0,rfl,ul0,ge0⟩:=Kd.FK_slice_open hMe0
 have hv0:=hcc0 0 _ rfl
 rw [Nat.add_zero,show ((Kd.slice 78 (Kd.int .u64))).sz=1 from rfl,Nat.mul_one] at hv0
 replace hv0:=Option.some.inj (hv0.symm.trans hx0)
 injection hv0 with hva_ hvn_ hvc_
 rw [hva_] at ge0
 rw [hvc_] at ul0
 have HL0:=am (show Kd.V (Kd.int .u64) 78 _ w.heap.size _ _ (rd_L20 x0 x4) from Kd.V_mk ul0 ge0)
 clear hva_ hvn_ hvc_ ge0 ul0
 clear hcc0 hce0
 have HR0:=am hi0
 have HC0:=am hl0
 clear hi0 hl0
 replace p0:=eq_true p0
 replace q0:=eq_true q0
 obtain ⟨Ao4,co4,eo4⟩:=Kd.V_slice HO2.out
 subst eo4
 go_wp2_with (first|((with_reducible refine gc 33 rfl ?_);refine gm_ (some 38) rfl rfl Tryd.func33 (carrefourref01_Order.calls _ _ _ (rd_L20 x0 x4) _ _ _ _ _ ?side1 ?side2 ?side3 ?side4 A2.out) ag ?_;(case side1=>repeat (first|exact (by repeat (first|(with_reducible exact HR0.out)|(with_reducible refine Kd.C_alloc ?_ _)|(with_reducible refine Kd.C_drewN ?_ _)|(with_reducible refine Kd.C_drew ?_)|exact HR0.out))|(with_reducible refine Kd.C_alloc ?_ _)|(with_reducible refine Kd.C_drewN ?_ _)|(with_reducible refine Kd.C_drew ?_)));(case side2=>exact HC0.out);(case side3=>repeat (first|exact (Kd.V_reads' HO2.out).2.2|(with_reducible refine Kd.C_alloc ?_ _)|(with_reducible refine Kd.C_drewN ?_ _)|(with_reducible refine Kd.C_drew ?_)));(case side4=>exact (Kd.V_reads' HO2.out).2.1);intro w4 hb;replace HO2:=am (Kd.V_below (Vt_ HO2.out) hb);replace HO3:=am (Kd.N_below (Nt_ HO3.out) hb);replace HL0:=am (Kd.V_below (Vt_ HL0.out) hb);replace HR0:=am (Kd.C_below (by repeat (first|(with_reducible exact HR0.out)|(with_reducible refine Kd.C_alloc ?_ _)|(with_reducible refine Kd.C_drewN ?_ _)|(with_reducible refine Kd.C_drew ?_)|exact HR0.out)) hb);replace HB:=bs HB hb;(try clear hb);have p1:0≤(x4:Int):=od_;have q1:x4<(x0.length:Int):=od_;obtain ⟨ad1,A8,c23,e1,hx1,hl1,hi1⟩:=at_L20 (Kd.N_reads' HO3.out).2.2 x4 p1 q1;obtain rfl:ad0=ad1:=(by injection e1);obtain ⟨ce1,hce1,hMe1,hcc1⟩:=Kd.N_get HO3.out [] x4 p1 (by first|exact q1|exact od_|(have e_:=(Kd.N_reads' HO3.out).1;omega));obtain ⟨ua1,uc1,rfl,ul1,ge1⟩:=Kd.FK_slice_open hMe1;have hv1:=hcc1 0 _ rfl;rw [Nat.add_zero,show ((Kd.slice 78 (Kd.int .u64))).sz=1 from rfl,Nat.mul_one] at hv1;replace hv1:=Option.some.inj (hv1.symm.trans hx1);injection hv1 with hva_ hvn_ hvc_;rw [hva_] at ge1;rw [hvc_] at ul1;have HL1:=am (show Kd.V (Kd.int .u64) 78 _ w.heap.size _ _ (rd_L20 x0 x4) from Kd.V_mk ul1 ge1);clear hva_ hvn_ hvc_ ge1 ul1;clear hcc1 hce1;have HR1:=am hi1;have HC1:=am hl1;clear hi1 hl1;replace p1:=eq_true p1;replace q1:=eq_true q1)|((with_reducible refine gc 34 rfl ?_);refine gl_ (some 45) rfl rfl Tryd.func34 ((carrefourref01_Minus.calls _ _ _ _ _ _ (rd_L20 x0 x4) _ _ ?side1 ?side2 ?side3 ?side4 A4.out).mono ?_) ag;(case side1=>repeat (first|exact (Kd.V_reads' HO2.out).2.2|(with_reducible refine Kd.C_alloc ?_ _)|(with_reducible refine Kd.C_drewN ?_ _)|(with_reducible refine Kd.C_drew ?_)));(case side2=>exact (Kd.V_reads' HO2.out).2.1);(case side3=>repeat (first|exact (by repeat (first|(with_reducible exact HR1.out)|(with_reducible refine Kd.C_alloc ?_ _)|(with_reducible refine Kd.C_drewN ?_ _)|(with_reducible refine Kd.C_drew ?_)|exact HR1.out))|(with_reducible refine Kd.C_alloc ?_ _)|(with_reducible refine Kd.C_drewN ?_ _)|(with_reducible refine Kd.C_drew ?_)));(case side4=>exact HC1.out);rintro e w5 ⟨v3,rfl,ho0,hb⟩;refine ⟨_,rfl,?_⟩;have HO7:=am (Kd.R_lower (Kd.R_newM (M:=fun k_=>(w.heap.size≤k_)) ho0 (below_size (bf HB)) (fun k_ h_=>h_)) (below_size (bf HB)));replace HO2:=am (Kd.V_elder' (Vt_ HO2.out) (Kd.R_base ho0) hb);replace HO3:=am (Kd.N_elder' (Nt_ HO3.out) (Kd.R_base ho0) hb);replace HL0:=am (Kd.V_elder' (Vt_ HL0.out) (Kd.R_base ho0) hb);replace HL1:=am (Kd.V_elder' (Vt_ HL1.out) (Kd.R_base ho0) hb);replace HR0:=am (Kd.C_below (by repeat (first|(with_reducible exact HR0.out)|(with_reducible refine Kd.C_alloc ?_ _)|(with_reducible refine Kd.C_drewN ?_ _)|(with_reducible refine Kd.C_drew ?_)|exact HR0.out)) hb);replace HR1:=am (Kd.C_below (by repeat (first|(with_reducible exact HR1.out)|(with_reducible refine Kd.C_alloc ?_ _)|(with_reducible refine Kd.C_drewN ?_ _)|(with_reducible refine Kd.C_drew ?_)|exact HR1.out)) hb);replace HB:=bs HB hb;(try clear hb);(try clear ho0);obtain ⟨Ao5,co5,eo5⟩:=Kd.R_slice HO7.out;subst eo5)|((with_reducible refine gc 28 rfl ?_);refine gl_ (some 46) rfl rfl Tryd.func28 ((carrefourref02_trim.calls _ _ _ _ _ _ ?side1 ?side2 A5.out).mono ?_) ag;(case side1=>exact rc HO7);(case side2=>exact (Kd.R_reads' HO7.out).2.1);rintro e w6 ⟨v4,rfl,ho0,hb⟩;refine ⟨_,rfl,?_⟩;have HO8:=am (Kd.R_lower (Kd.R_new' (Kd.R_newM (M:=fun k_=>(w.heap.size≤k_)) ho0 (below_size (bf HB)) (fun k_ h_=>h_)) (rl HO7)) (below_size (bf HB)));replace HO2:=am (Kd.V_elder' (Vt_ HO2.out) (Kd.R_base ho0) hb);replace HO3:=am (Kd.N_elder' (Nt_ HO3.out) (Kd.R_base ho0) hb);replace HL0:=am (Kd.V_elder' (Vt_ HL0.out) (Kd.R_base ho0) hb);replace HL1:=am (Kd.V_elder' (Vt_ HL1.out) (Kd.R_base ho0) hb);replace HO7:=re_ HO7 (Kd.R_base ho0) hb;replace HR0:=am (Kd.C_below (by repeat (first|(with_reducible exact HR0.out)|(with_reducible refine Kd.C_alloc ?_ _)|(with_reducible refine Kd.C_drewN ?_ _)|(with_reducible refine Kd.C_drew ?_)|exact HR0.out)) hb);replace HR1:=am (Kd.C_below (by repeat (first|(with_reducible exact HR1.out)|(with_reducible refine Kd.C_alloc ?_ _)|(with_reducible refine Kd.C_drewN ?_ _)|(with_reducible refine Kd.C_drew ?_)|exact HR1.out)) hb);replace HB:=bs HB hb;(try clear hb);(try clear ho0)))
 go_roundg k2
 case measure=>have:=HK1.out;have:=HK2.out;omega
 case rel=>exact ⟨(t4),(IntKind.u64.wrap ((IntKind.u64.wrap (x3*2))+1)),(wrap64 (x4-1)),(aq),(aq),H',⟨by have:=HK1.out;have:=HK2.out;omega⟩,⟨Kd.V_mono (Kd.R_V (Rt_ (Kd.R_mono (Kd.R_apart' HO8.out (Kd.N_typed HO3.out) (by decide)) (fun _ hk=>And.intro hk.1.1.1 hk.2)))) (fun k_ hk=>by first|exact ⟨(.inr (hk.1)),hk.2⟩|exact (.inr (hk)))⟩,⟨Nt_ (Kd.N_mono HO3.out (fun _ hk=>hk.1.1))⟩,⟨bf HB⟩⟩};{
 rw [if_neg c22] at H
 have c17:decide (t2≤0)=false:=decide_eq_false c22
 clear c22
 have H':=am H
 clear H
 have p0:0≤(x4:Int):=od_
 have q0:x4<(x0.length:Int):=od_
 obtain ⟨ad0,A7,c21,e0,hx0,hl0,hi0⟩:=at_L20 (Kd.N_reads' HO3.out).2.2 x4 p0 q0
 cases e0
 obtain ⟨ce0,hce0,hMe0,hcc0⟩:=Kd.N_get HO3.out [] x4 p0 (by first|exact q0|exact od_|(have e_:=(Kd.N_reads' HO3.out).1;omega))
 obtain ⟨ua0,uc0,rfl,ul0,ge0⟩:=Kd.FK_slice_open hMe0
 have hv0:=hcc0 0 _ rfl
 rw [Nat.add_zero,show ((Kd.slice 78 (Kd.int .u64))).sz=1 from rfl,Nat.mul_one] at hv0
 replace hv0:=Option.some.inj (hv0.symm.trans hx0)
 injection hv0 with hva_ hvn_ hvc_
 rw [hva_] at ge0
 rw [hvc_] at ul0
 have HL0:=am (show Kd.V (Kd.int .u64) 78 _ w.heap.size _ _ (rd_L20 x0 x4) from Kd.V_mk ul0 ge0)
 clear hva_ hvn_ hvc_ ge0 ul0
 clear hcc0 hce0
 have HR0:=am hi0
 have HC0:=am hl0
 clear hi0 hl0
 replace p0:=eq_true p0
 replace q0:=eq_true q0
 obtain ⟨Ao6,co6,eo6⟩:=Kd.V_slice HO2.out
 subst eo6
 go_wp2_with (first|((with_reducible refine gc 33 rfl ?_);refine gm_ (some 38) rfl rfl Tryd.func33 (carrefourref01_Order.calls _ _ _ (rd_L20 x0 x4) _ _ _ _ _ ?side1 ?side2 ?side3 ?side4 A2.out) ag ?_;(case side1=>repeat (first|exact (by repeat (first|(with_reducible exact HR0.out)|(with_reducible refine Kd.C_alloc ?_ _)|(with_reducible refine Kd.C_drewN ?_ _)|(with_reducible refine Kd.C_drew ?_)|exact HR0.out))|(with_reducible refine Kd.C_alloc ?_ _)|(with_reducible refine Kd.C_drewN ?_ _)|(with_reducible refine Kd.C_drew ?_)));(case side2=>exact HC0.out);(case side3=>repeat (first|exact (Kd.V_reads' HO2.out).2.2|(with_reducible refine Kd.C_alloc ?_ _)|(with_reducible refine Kd.C_drewN ?_ _)|(with_reducible refine Kd.C_drew ?_)));(case side4=>exact (Kd.V_reads' HO2.out).2.1);intro w7 hb;replace HO2:=am (Kd.V_below (Vt_ HO2.out) hb);replace HO3:=am (Kd.N_below (Nt_ HO3.out) hb);replace HL0:=am (Kd.V_below (Vt_ HL0.out) hb);replace HR0:=am (Kd.C_below (by repeat (first|(with_reducible exact HR0.out)|(with_reducible refine Kd.C_alloc ?_ _)|(with_reducible refine Kd.C_drewN ?_ _)|(with_reducible refine Kd.C_drew ?_)|exact HR0.out)) hb);replace HB:=bs HB hb;(try clear hb)))
 go_roundg k2
 case measure=>have:=HK1.out;have:=HK2.out;omega
 case rel=>exact ⟨(x2),(IntKind.u64.wrap (x3*2)),(wrap64 (x4-1)),(aq),(aq),H',⟨by have:=HK1.out;have:=HK2.out;omega⟩,⟨Vt_ HO2.out⟩,⟨Nt_ HO3.out⟩,⟨bf HB⟩⟩}};{
 rw [if_neg c20] at H
 exact absurd H (by simp)}};{
 rw [if_neg c19] at H
 exact absurd H (by simp)}};{
 rw [if_neg c9] at H
 have c10:decide (0≤x4)=false:=decide_eq_false c9
 clear c9
 simp only [Option.some.injEq,Prod.mk.injEq] at H
 obtain ⟨rfl,rfl⟩:=H
 go_wp2
 go_ret2
 exact ⟨ae,bf HB⟩}}}}}}}
theorem carrefourref02_lowest.calls (k:Nat) (P0:Nat→Prop) (A0:Option Addr) (c0:Nat) (l0:List Int) (P1:Nat→Prop) (A1:Option Addr) (c1:Nat) (l1:List Int) (a2:Bool) (r1:Int) (r2:Int) (r3:Int) (w:World) (hs0:Kd.V (Kd.int .u64) 78 w w.heap.size (fun k_=>P0 k_) (.slice A0 l0.length c0) l0) (hs1:Kd.V (Kd.int .u64) 78 w w.heap.size (fun k_=>P1 k_) (.slice A1 l1.length c1) l1) (h:carrefourref02_lowest.f k l0 l1 a2=some (r1,r2,r3)) :
  Calls Tryd.prog 31 #[.slice A0 l0.length c0,.slice A1 l1.length c1,.bool a2] w fun e w'=>e=.returned (.tuple #[.agg #[.int .i64 r1,.int .i64 r2],.int .i64 r3])∧Below w.heap.size w w':=by
 have hu0:=Tryd.underlying36
 have HO0:=am (show Kd.V (Kd.int .u64) 78 w w.heap.size (fun k_=>((P0 k_∨P1 k_)∨w.heap.size≤k_)) (.slice A0 l0.length c0) l0 from Kd.V_mono hs0 (fun k_ hk=>.inl (.inl hk)))
 have HO1:=am (show Kd.V (Kd.int .u64) 78 w w.heap.size (fun k_=>((P0 k_∨P1 k_)∨w.heap.size≤k_)) (.slice A1 l1.length c1) l1 from Kd.V_mono hs1 (fun k_ hk=>.inl (.inr hk)))
 have HB:=am (Below.refl w.heap.size w)
 have H:(carrefourref02_lowest.l0 k l0 l1 a2 l0 l1)=some (r1,r2,r3):=h
 clear h
 have H':=am H
 clear H
 go_enter Tryd.func31,Tryd.ntmps31
 go_wp2_with (first|((with_reducible refine gd 6 rfl ?_);refine bx_ 6 36 #[.int .i64 0,.int .i64 0] rfl rfl ?_;intro gb0 hg w4 BK0 hb;have GE0:=bz HB hg;replace HO0:=am (Kd.V_below (Kd.V_elderB (Vt_ HO0.out) gb0 (Nat.le_of_eq hg.symm)) hb);replace HO1:=am (Kd.V_below (Kd.V_elderB (Vt_ HO1.out) gb0 (Nat.le_of_eq hg.symm)) hb);replace HB:=bs HB hb;clear hb hg))
 go_loopg [8,9] k (fun kq v8 v9 w'=>∃ (x0:List Int) (x1:List Int),Aside0 (carrefourref02_lowest.l0 kq l0 l1 a2 x0 x1=some (r1,r2,r3))∧Aside0 (kq≤k)∧Aside0 (Kd.V (Kd.int .u64) 78 w' w.heap.size (fun k_=>((P0 k_∨P1 k_)∨w.heap.size≤k_)∧k_≠gb0) (.slice A0 l0.length c0) l0)∧Aside0 (Kd.V (Kd.int .u64) 78 w' w.heap.size (fun k_=>((P0 k_∨P1 k_)∨w.heap.size≤k_)∧k_≠gb0) (.slice A1 l1.length c1) l1)∧Aside0 (Kd.V (Kd.int .u64) 78 w' w.heap.size (fun k_=>((P0 k_∨P1 k_)∨w.heap.size≤k_)∧k_≠gb0) v8 x0)∧Aside0 (Kd.V (Kd.int .u64) 78 w' w.heap.size (fun k_=>((P0 k_∨P1 k_)∨w.heap.size≤k_)∧k_≠gb0) v9 x1)∧Aside0 (w'.heap[gb0]?=some (.cells #[.int .i64 0,.int .i64 0] 36 (0,0)))∧Aside0 (Below w.heap.size w w'))
 case atStart=>exact ⟨(l0),(l1),H',⟨Nat.le_refl _⟩,⟨Vt_ HO0.out⟩,⟨Vt_ HO1.out⟩,⟨Vt_ HO0.out⟩,⟨Vt_ HO1.out⟩,bu_ BK0,⟨bf HB⟩⟩
 case round =>skip;{
 clear H'
 (try clear c1);(try clear p2);(try clear c3)
 obtain ⟨x0,x1,HA,HK1,HO2,HO3,HO4,HO5,BK0,HB⟩:=hrel
 cases gk with
 | zero=>exact absurd HA.out (by simp [carrefourref02_lowest.l0])
 | succ k1 =>skip;{
 have H:=HA.out
 clear HA
 simp only [carrefourref02_lowest.l0] at H
 replace H:=bi_ H;obtain ⟨t0,A5,H⟩:=H
 (try dsimp only at H)
 by_cases c6:t0=0;{
 rw [if_pos c6] at H
 have c2:(t0==0)=true:=beq_iff_eq.mpr c6
 have c4:(t0 != 0)=false:=bne_eq_false_iff_eq.mpr c6
 clear c6
 replace H:=bi_ H;obtain ⟨⟨t1,t2⟩,A7,H⟩:=H
 (try dsimp only at H)
 replace H:=bi_ H;obtain ⟨⟨t3,t4⟩,A8,H⟩:=H
 (try dsimp only at H)
 by_cases c9:t2=true;{
 subst c9
 have H1:(if t4=true then (if a2=true then ((carrefourref02_made.f k1 t1 t3 (t1 != 0)).bind fun bt0=>(some (bt0.1,bt0.2.1,bt0.2.2))) else ((carrefourref02_made.f k1 t1 t3 false).bind fun bt1=>(some (bt1.1,bt1.2.1,bt1.2.2)))) else (some (0,0,2)))=some (r1,r2,r3):=by rw [if_pos rfl] at H;exact H
 clear H
 have H:=H1
 clear H1
 by_cases c5:t4=true;{
 subst c5
 have H1:(if a2=true then ((carrefourref02_made.f k1 t1 t3 (t1 != 0)).bind fun bt0=>(some (bt0.1,bt0.2.1,bt0.2.2))) else ((carrefourref02_made.f k1 t1 t3 false).bind fun bt1=>(some (bt1.1,bt1.2.1,bt1.2.2))))=some (r1,r2,r3):=by rw [if_pos rfl] at H;exact H
 clear H
 have H:=H1
 clear H1
 by_cases c7:a2=true;{
 subst c7
 have H1:((carrefourref02_made.f k1 t1 t3 (t1 != 0)).bind fun bt0=>(some (bt0.1,bt0.2.1,bt0.2.2)))=some (r1,r2,r3):=by rw [if_pos rfl] at H;exact H
 clear H
 have H:=H1
 clear H1
 replace H:=bi_ H;obtain ⟨⟨t5,t6,t7⟩,A2,H⟩:=H
 (try dsimp only at H)
 simp only [Option.some.injEq,Prod.mk.injEq] at H
 obtain ⟨rfl,rfl,rfl⟩:=H
 obtain ⟨Ao0,co0,eo0⟩:=Kd.V_slice HO5.out
 subst eo0
 go_wp2_with (first|((with_reducible refine gate_callee (f:=33) rfl ?_);refine goesL_ (some 18) rfl rfl Tryd.func33 (by kernel_rfl) rfl #[.slice Ao0 x1.length co0,.slice none 0 0] rfl ag ?_;(refine (carrefourref01_Order.calls _ _ _ _ _ _ ([]:List Int) _ _ ?side1 ?side2 ?side3 ?side4 A5.out).mono ?_);(case side1=>repeat (first|exact (Kd.V_reads' HO5.out).2.2|(with_reducible refine Kd.C_alloc ?_ _)|(with_reducible refine Kd.C_drewN ?_ _)|(with_reducible refine Kd.C_drew ?_)));(case side2=>exact (Kd.V_reads' HO5.out).2.1);(case side3=>exact Kd.C_nil _ _);(case side4=>exact Nat.le_refl _);rintro e w0 ⟨rfl,hb⟩;refine ⟨_,rfl,?_⟩;replace HO2:=am (Kd.V_below (Vt_ HO2.out) hb);replace HO3:=am (Kd.V_below (Vt_ HO3.out) hb);replace HO4:=am (Kd.V_below (Vt_ HO4.out) hb);replace HO5:=am (Kd.V_below (Vt_ HO5.out) hb);replace BK0:=bb BK0 hb;replace HB:=bs HB hb;(try clear hb);obtain ⟨Ao1,co1,eo1⟩:=Kd.V_slice HO4.out;subst eo1)|((with_reducible refine gc 47 rfl ?_);refine gm_ (some 28) rfl rfl Tryd.func47 (carrefourref02_divided.calls _ (fun k_=>(((P0 k_∨P1 k_)∨w.heap.size≤k_)∧k_≠gb0)) _ _ _ (fun k_=>(((P0 k_∨P1 k_)∨w.heap.size≤k_)∧k_≠gb0)) _ _ _ _ _ _ ?side1 ?side2 A7.out) ag ?_;(case side1=>exact HO2.out);(case side2=>exact HO4.out);intro w1 hb;replace HO2:=am (Kd.V_below (Vt_ HO2.out) hb);replace HO3:=am (Kd.V_below (Vt_ HO3.out) hb);replace HO4:=am (Kd.V_below (Vt_ HO4.out) hb);replace HO5:=am (Kd.V_below (Vt_ HO5.out) hb);replace BK0:=bb BK0 hb;replace HB:=bs HB hb;(try clear hb))|((with_reducible refine gc 47 rfl ?_);refine gm_ (some 34) rfl rfl Tryd.func47 (carrefourref02_divided.calls _ (fun k_=>(((P0 k_∨P1 k_)∨w.heap.size≤k_)∧k_≠gb0)) _ _ _ (fun k_=>(((P0 k_∨P1 k_)∨w.heap.size≤k_)∧k_≠gb0)) _ _ _ _ _ _ ?side1 ?side2 A8.out) ag ?_;(case side1=>exact HO3.out);(case side2=>exact HO4.out);intro w2 hb;replace HO2:=am (Kd.V_below (Vt_ HO2.out) hb);replace HO3:=am (Kd.V_below (Vt_ HO3.out) hb);replace HO4:=am (Kd.V_below (Vt_ HO4.out) hb);replace HO5:=am (Kd.V_below (Vt_ HO5.out) hb);replace BK0:=bb BK0 hb;replace HB:=bs HB hb;(try clear hb))|((with_reducible refine gc 44 rfl ?_);refine gm_ (some 51) rfl rfl Tryd.func44 (carrefourref02_made.calls _ _ _ (t1 != 0) _ _ _ _ A2.out) ag ?_;intro w3 hb;replace HO2:=am (Kd.V_below (Vt_ HO2.out) hb);replace HO3:=am (Kd.V_below (Vt_ HO3.out) hb);replace HO4:=am (Kd.V_below (Vt_ HO4.out) hb);replace HO5:=am (Kd.V_below (Vt_ HO5.out) hb);replace BK0:=bb BK0 hb;replace HB:=bs HB hb;(try clear hb);have hcz0:=X.k2 BK0))
 refine bodyPost_ret (results_ct rfl _ _ gb0 36 #[.int .i64 t5,.int .i64 t6] (0,0) _ rfl (br_ BK0) Tryd.underlying36 rfl (by kernel_rfl)) rfl ?_
 exact ⟨ae,bf HB⟩};{
 replace c7:=Bool.eq_false_iff.mpr c7
 subst c7
 have H1:((carrefourref02_made.f k1 t1 t3 false).bind fun bt1=>(some (bt1.1,bt1.2.1,bt1.2.2)))=some (r1,r2,r3):=by rw [if_neg (show ¬ (false=true) by decide)] at H;exact H
 clear H
 have H:=H1
 clear H1
 replace H:=bi_ H;obtain ⟨⟨t8,t9,t10⟩,A3,H⟩:=H
 (try dsimp only at H)
 simp only [Option.some.injEq,Prod.mk.injEq] at H
 obtain ⟨rfl,rfl,rfl⟩:=H
 obtain ⟨Ao2,co2,eo2⟩:=Kd.V_slice HO5.out
 subst eo2
 go_wp2_with (first|((with_reducible refine gate_callee (f:=33) rfl ?_);refine goesL_ (some 18) rfl rfl Tryd.func33 (by kernel_rfl) rfl #[.slice Ao2 x1.length co2,.slice none 0 0] rfl ag ?_;(refine (carrefourref01_Order.calls _ _ _ _ _ _ ([]:List Int) _ _ ?side1 ?side2 ?side3 ?side4 A5.out).mono ?_);(case side1=>repeat (first|exact (Kd.V_reads' HO5.out).2.2|(with_reducible refine Kd.C_alloc ?_ _)|(with_reducible refine Kd.C_drewN ?_ _)|(with_reducible refine Kd.C_drew ?_)));(case side2=>exact (Kd.V_reads' HO5.out).2.1);(case side3=>exact Kd.C_nil _ _);(case side4=>exact Nat.le_refl _);rintro e w5 ⟨rfl,hb⟩;refine ⟨_,rfl,?_⟩;replace HO2:=am (Kd.V_below (Vt_ HO2.out) hb);replace HO3:=am (Kd.V_below (Vt_ HO3.out) hb);replace HO4:=am (Kd.V_below (Vt_ HO4.out) hb);replace HO5:=am (Kd.V_below (Vt_ HO5.out) hb);replace BK0:=bb BK0 hb;replace HB:=bs HB hb;(try clear hb);obtain ⟨Ao3,co3,eo3⟩:=Kd.V_slice HO4.out;subst eo3)|((with_reducible refine gc 47 rfl ?_);refine gm_ (some 28) rfl rfl Tryd.func47 (carrefourref02_divided.calls _ (fun k_=>(((P0 k_∨P1 k_)∨w.heap.size≤k_)∧k_≠gb0)) _ _ _ (fun k_=>(((P0 k_∨P1 k_)∨w.heap.size≤k_)∧k_≠gb0)) _ _ _ _ _ _ ?side1 ?side2 A7.out) ag ?_;(case side1=>exact HO2.out);(case side2=>exact HO4.out);intro w6 hb;replace HO2:=am (Kd.V_below (Vt_ HO2.out) hb);replace HO3:=am (Kd.V_below (Vt_ HO3.out) hb);replace HO4:=am (Kd.V_below (Vt_ HO4.out) hb);replace HO5:=am (Kd.V_below (Vt_ HO5.out) hb);replace BK0:=bb BK0 hb;replace HB:=bs HB hb;(try clear hb))|((with_reducible refine gc 47 rfl ?_);refine gm_ (some 34) rfl rfl Tryd.func47 (carrefourref02_divided.calls _ (fun k_=>(((P0 k_∨P1 k_)∨w.heap.size≤k_)∧k_≠gb0)) _ _ _ (fun k_=>(((P0 k_∨P1 k_)∨w.heap.size≤k_)∧k_≠gb0)) _ _ _ _ _ _ ?side1 ?side2 A8.out) ag ?_;(case side1=>exact HO3.out);(case side2=>exact HO4.out);intro w7 hb;replace HO2:=am (Kd.V_below (Vt_ HO2.out) hb);replace HO3:=am (Kd.V_below (Vt_ HO3.out) hb);replace HO4:=am (Kd.V_below (Vt_ HO4.out) hb);replace HO5:=am (Kd.V_below (Vt_ HO5.out) hb);replace BK0:=bb BK0 hb;replace HB:=bs HB hb;(try clear hb))|((with_reducible refine gc 44 rfl ?_);refine gm_ (some 51) rfl rfl Tryd.func44 (carrefourref02_made.calls _ _ _ _ _ _ _ _ A3.out) ag ?_;intro w8 hb;replace HO2:=am (Kd.V_below (Vt_ HO2.out) hb);replace HO3:=am (Kd.V_below (Vt_ HO3.out) hb);replace HO4:=am (Kd.V_below (Vt_ HO4.out) hb);replace HO5:=am (Kd.V_below (Vt_ HO5.out) hb);replace BK0:=bb BK0 hb;replace HB:=bs HB hb;(try clear hb);have hcz1:=X.k2 BK0))
 refine bodyPost_ret (results_ct rfl _ _ gb0 36 #[.int .i64 t8,.int .i64 t9] (0,0) _ rfl (br_ BK0) Tryd.underlying36 rfl (by kernel_rfl)) rfl ?_
 exact ⟨ae,bf HB⟩}};{
 replace c5:=Bool.eq_false_iff.mpr c5
 subst c5
 have H1:(some (0,0,2))=some (r1,r2,r3):=by rw [if_neg (show ¬ (false=true) by decide)] at H;exact H
 clear H
 have H:=H1
 clear H1
 simp only [Option.some.injEq,Prod.mk.injEq] at H
 obtain ⟨rfl,rfl,rfl⟩:=H
 obtain ⟨Ao4,co4,eo4⟩:=Kd.V_slice HO5.out
 subst eo4
 go_wp2_with (first|((with_reducible refine gate_callee (f:=33) rfl ?_);refine goesL_ (some 18) rfl rfl Tryd.func33 (by kernel_rfl) rfl #[.slice Ao4 x1.length co4,.slice none 0 0] rfl ag ?_;(refine (carrefourref01_Order.calls _ _ _ _ _ _ ([]:List Int) _ _ ?side1 ?side2 ?side3 ?side4 A5.out).mono ?_);(case side1=>repeat (first|exact (Kd.V_reads' HO5.out).2.2|(with_reducible refine Kd.C_alloc ?_ _)|(with_reducible refine Kd.C_drewN ?_ _)|(with_reducible refine Kd.C_drew ?_)));(case side2=>exact (Kd.V_reads' HO5.out).2.1);(case side3=>exact Kd.C_nil _ _);(case side4=>exact Nat.le_refl _);rintro e w9 ⟨rfl,hb⟩;refine ⟨_,rfl,?_⟩;replace HO2:=am (Kd.V_below (Vt_ HO2.out) hb);replace HO3:=am (Kd.V_below (Vt_ HO3.out) hb);replace HO4:=am (Kd.V_below (Vt_ HO4.out) hb);replace HO5:=am (Kd.V_below (Vt_ HO5.out) hb);replace BK0:=bb BK0 hb;replace HB:=bs HB hb;(try clear hb);obtain ⟨Ao5,co5,eo5⟩:=Kd.V_slice HO4.out;subst eo5)|((with_reducible refine gc 47 rfl ?_);refine gm_ (some 28) rfl rfl Tryd.func47 (carrefourref02_divided.calls _ (fun k_=>(((P0 k_∨P1 k_)∨w.heap.size≤k_)∧k_≠gb0)) _ _ _ (fun k_=>(((P0 k_∨P1 k_)∨w.heap.size≤k_)∧k_≠gb0)) _ _ _ _ _ _ ?side1 ?side2 A7.out) ag ?_;(case side1=>exact HO2.out);(case side2=>exact HO4.out);intro w31 hb;replace HO2:=am (Kd.V_below (Vt_ HO2.out) hb);replace HO3:=am (Kd.V_below (Vt_ HO3.out) hb);replace HO4:=am (Kd.V_below (Vt_ HO4.out) hb);replace HO5:=am (Kd.V_below (Vt_ HO5.out) hb);replace BK0:=bb BK0 hb;replace HB:=bs HB hb;(try clear hb))|((with_reducible refine gc 47 rfl ?_);refine gm_ (some 34) rfl rfl Tryd.func47 (carrefourref02_divided.calls _ (fun k_=>(((P0 k_∨P1 k_)∨w.heap.size≤k_)∧k_≠gb0)) _ _ _ (fun k_=>(((P0 k_∨P1 k_)∨w.heap.size≤k_)∧k_≠gb0)) _ _ _ _ _ _ ?side1 ?side2 A8.out) ag ?_;(case side1=>exact HO3.out);(case side2=>exact HO4.out);intro w32 hb;replace HO2:=am (Kd.V_below (Vt_ HO2.out) hb);replace HO3:=am (Kd.V_below (Vt_ HO3.out) hb);replace HO4:=am (Kd.V_below (Vt_ HO4.out) hb);replace HO5:=am (Kd.V_below (Vt_ HO5.out) hb);replace BK0:=bb BK0 hb;replace HB:=bs HB hb;(try clear hb);have hcz2:=X.k2 BK0))
 refine bodyPost_ret (results_ct rfl _ _ gb0 36 #[.int .i64 0,.int .i64 0] (0,0) _ rfl (br_ BK0) Tryd.underlying36 rfl (by kernel_rfl)) rfl ?_
 exact ⟨ae,bf HB⟩}};{
 replace c9:=Bool.eq_false_iff.mpr c9
 subst c9
 have H1:(some (0,0,2))=some (r1,r2,r3):=by rw [if_neg (show ¬ (false=true) by decide)] at H;exact H
 clear H
 have H:=H1
 clear H1
 simp only [Option.some.injEq,Prod.mk.injEq] at H
 obtain ⟨rfl,rfl,rfl⟩:=H
 obtain ⟨Ao6,co6,eo6⟩:=Kd.V_slice HO5.out
 subst eo6
 go_wp2_with (first|((with_reducible refine gate_callee (f:=33) rfl ?_);refine goesL_ (some 18) rfl rfl Tryd.func33 (by kernel_rfl) rfl #[.slice Ao6 x1.length co6,.slice none 0 0] rfl ag ?_;(refine (carrefourref01_Order.calls _ _ _ _ _ _ ([]:List Int) _ _ ?side1 ?side2 ?side3 ?side4 A5.out).mono ?_);(case side1=>repeat (first|exact (Kd.V_reads' HO5.out).2.2|(with_reducible refine Kd.C_alloc ?_ _)|(with_reducible refine Kd.C_drewN ?_ _)|(with_reducible refine Kd.C_drew ?_)));(case side2=>exact (Kd.V_reads' HO5.out).2.1);(case side3=>exact Kd.C_nil _ _);(case side4=>exact Nat.le_refl _);rintro e w35 ⟨rfl,hb⟩;refine ⟨_,rfl,?_⟩;replace HO2:=am (Kd.V_below (Vt_ HO2.out) hb);replace HO3:=am (Kd.V_below (Vt_ HO3.out) hb);replace HO4:=am (Kd.V_below (Vt_ HO4.out) hb);replace HO5:=am (Kd.V_below (Vt_ HO5.out) hb);replace BK0:=bb BK0 hb;replace HB:=bs HB hb;(try clear hb);obtain ⟨Ao7,co7,eo7⟩:=Kd.V_slice HO4.out;subst eo7)|((with_reducible refine gc 47 rfl ?_);refine gm_ (some 28) rfl rfl Tryd.func47 (carrefourref02_divided.calls _ (fun k_=>(((P0 k_∨P1 k_)∨w.heap.size≤k_)∧k_≠gb0)) _ _ _ (fun k_=>(((P0 k_∨P1 k_)∨w.heap.size≤k_)∧k_≠gb0)) _ _ _ _ _ _ ?side1 ?side2 A7.out) ag ?_;(case side1=>exact HO2.out);(case side2=>exact HO4.out);intro w37 hb;replace HO2:=am (Kd.V_below (Vt_ HO2.out) hb);replace HO3:=am (Kd.V_below (Vt_ HO3.out) hb);replace HO4:=am (Kd.V_below (Vt_ HO4.out) hb);replace HO5:=am (Kd.V_below (Vt_ HO5.out) hb);replace BK0:=bb BK0 hb;replace HB:=bs HB hb;(try clear hb))|((with_reducible refine gc 47 rfl ?_);refine gm_ (some 34) rfl rfl Tryd.func47 (carrefourref02_divided.calls _ (fun k_=>(((P0 k_∨P1 k_)∨w.heap.size≤k_)∧k_≠gb0)) _ _ _ (fun k_=>(((P0 k_∨P1 k_)∨w.heap.size≤k_)∧k_≠gb0)) _ _ _ _ _ _ ?side1 ?side2 A8.out) ag ?_;(case side1=>exact HO3.out);(case side2=>exact HO4.out);intro w38 hb;replace HO2:=am (Kd.V_below (Vt_ HO2.out) hb);replace HO3:=am (Kd.V_below (Vt_ HO3.out) hb);replace HO4:=am (Kd.V_below (Vt_ HO4.out) hb);replace HO5:=am (Kd.V_below (Vt_ HO5.out) hb);replace BK0:=bb BK0 hb;replace HB:=bs HB hb;(try clear hb);have hcz3:=X.k2 BK0))
 refine bodyPost_ret (results_ct rfl _ _ gb0 36 #[.int .i64 0,.int .i64 0] (0,0) _ rfl (br_ BK0) Tryd.underlying36 rfl (by kernel_rfl)) rfl ?_
 exact ⟨ae,bf HB⟩}};{
 rw [if_neg c6] at H
 have c2:(t0==0)=false:=beq_eq_false_iff_ne.mpr c6
 have c4:(t0 != 0)=true:=bne_iff_ne.mpr c6
 replace H:=bi_ H;obtain ⟨t11,A4,H⟩:=H
 (try dsimp only at H)
 have H':=am H
 clear H
 obtain ⟨Ao8,co8,eo8⟩:=Kd.V_slice HO5.out
 subst eo8
 go_wp2_with (first|((with_reducible refine gate_callee (f:=33) rfl ?_);refine goesL_ (some 18) rfl rfl Tryd.func33 (by kernel_rfl) rfl #[.slice Ao8 x1.length co8,.slice none 0 0] rfl ag ?_;(refine (carrefourref01_Order.calls _ _ _ _ _ _ ([]:List Int) _ _ ?side1 ?side2 ?side3 ?side4 A5.out).mono ?_);(case side1=>repeat (first|exact (Kd.V_reads' HO5.out).2.2|(with_reducible refine Kd.C_alloc ?_ _)|(with_reducible refine Kd.C_drewN ?_ _)|(with_reducible refine Kd.C_drew ?_)));(case side2=>exact (Kd.V_reads' HO5.out).2.1);(case side3=>exact Kd.C_nil _ _);(case side4=>exact Nat.le_refl _);rintro e w42 ⟨rfl,hb⟩;refine ⟨_,rfl,?_⟩;replace HO2:=am (Kd.V_below (Vt_ HO2.out) hb);replace HO3:=am (Kd.V_below (Vt_ HO3.out) hb);replace HO4:=am (Kd.V_below (Vt_ HO4.out) hb);replace HO5:=am (Kd.V_below (Vt_ HO5.out) hb);replace BK0:=bb BK0 hb;replace HB:=bs HB hb;(try clear hb);obtain ⟨Ao9,co9,eo9⟩:=Kd.V_slice HO4.out;subst eo9)|((with_reducible refine gc 46 rfl ?_);refine gl_ (some 22) rfl rfl Tryd.func46 ((carrefourref02_rest.calls _ (fun k_=>(((P0 k_∨P1 k_)∨w.heap.size≤k_)∧k_≠gb0)) _ _ _ (fun k_=>(((P0 k_∨P1 k_)∨w.heap.size≤k_)∧k_≠gb0)) _ _ _ _ _ ?side1 ?side2 A4.out).mono ?_) ag;(case side1=>exact HO4.out);(case side2=>exact HO5.out);rintro e w44 ⟨v0,rfl,ho0,hb⟩;refine ⟨_,rfl,?_⟩;have HO6:=am (Kd.V_lower (Kd.V_mono (ok':=fun k_=>((P0 k_∨P1 k_)∨w.heap.size≤k_)∧k_≠gb0) ho0 (fun k_ hk_=>⟨Or.elim hk_ (fun hs_=>Or.elim hs_ (fun hs_=>hs_.1) (fun hs_=>hs_.1)) (fun hn_=>(.inr (Nat.le_trans (below_size (bf HB)) hn_))),Or.elim hk_ (fun hs_=>Or.elim hs_ (fun hs_=>hs_.2) (fun hs_=>hs_.2)) (fun hn_=>(Kd.freshB (g:=gb0) (o:=.cells #[.int .i64 0,.int .i64 0] 36 (0,0)) (bx BK0) k_ hn_))⟩)) (below_size (bf HB)));replace HO2:=am (Kd.V_below (Vt_ HO2.out) hb);replace HO3:=am (Kd.V_below (Vt_ HO3.out) hb);replace HO4:=am (Kd.V_below (Vt_ HO4.out) hb);replace HO5:=am (Kd.V_below (Vt_ HO5.out) hb);replace BK0:=bb BK0 hb;replace HB:=bs HB hb;(try clear hb);(try clear ho0)))
 go_roundg k1
 case measure=>have:=HK1.out;omega
 case rel=>exact ⟨(x1),(t11),H',⟨by have:=HK1.out;omega⟩,⟨Vt_ HO2.out⟩,⟨Vt_ HO3.out⟩,⟨Vt_ HO5.out⟩,⟨Vt_ HO6.out⟩,bu_ BK0,⟨bf HB⟩⟩}}}
end Go.Proofs.YtenphnkiacfmiaaDoor.X
