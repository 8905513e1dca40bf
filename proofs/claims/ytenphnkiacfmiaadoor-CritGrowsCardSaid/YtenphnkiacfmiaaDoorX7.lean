/- Walks: each '.calls' says that the Go function comes to what its Lean function tells. Conditions: as each theorem's head says. -/
import Derived.Test.YtenphnkiacfmiaaDoorXD
import Derived.Test.YtenphnkiacfmiaaDoorX0
import Derived.Test.YtenphnkiacfmiaaDoorX6
namespace Go.Proofs.YtenphnkiacfmiaaDoor.X
open Go.RowKit Go.Proofs.YtenphnkiacfmiaaDoorW.PrintWords Go.Proofs.YtenphnkiacfmiaaDoorW.PrintLast Go.Proofs.YtenphnkiacfmiaaDoorW.PrintMore
attribute [local go_sem] max2_int min2_int max_two min_two max_three min_three max_four min_four
set_option linter.unusedVariables false
set_option maxHeartbeats 8000000
set_option maxRecDepth 100000
set_option linter.unusedSimpArgs false
theorem carrefourlaw11_few.calls (k:Nat) (a0:ByteArray) (P0:Nat→Prop) (A0:Option Addr) (c0:Nat) (l0:List (S96)) (P1:Nat→Prop) (A2:Option Addr) (c2:Nat) (l2:List (S98)) (P2:Nat→Prop) (A3:Option Addr) (c4:Nat) (l3:List (S61)) (P3:Nat→Prop) (A5:Option Addr) (c5:Nat) (l4:List (S33)) (P4:Nat→Prop) (A6:Option Addr) (c6:Nat) (l5:List (S100)) (a1:Int) (A1:Option Addr) (c1:Nat) (l1:List (S36)) (r:Bool) (w:World) (hs0:Kd.V k96 96 w w.heap.size (fun k_=>P0 k_) (.slice A0 l0.length c0) l0) (hs1:Kd.V k98 98 w w.heap.size (fun k_=>P1 k_) (.slice A2 l2.length c2) l2) (hs2:Kd.V k61 61 w w.heap.size (fun k_=>P2 k_) (.slice A3 l3.length c4) l3) (hs3:Kd.V k33 33 w w.heap.size (fun k_=>P3 k_) (.slice A5 l4.length c5) l4) (hs4:Kd.V k100 100 w w.heap.size (fun k_=>P4 k_) (.slice A6 l5.length c6) l5) (hr1:Kd.C k36 w A1 l1.length l1) (hc1:l1.length≤c1) (h:carrefourlaw11_few.f k a0 l0 l2 l3 l4 l5 a1 l1=some r) :
  Calls Tryd.prog 5 #[.agg #[.string a0,.slice A0 l0.length c0,.slice A2 l2.length c2,.slice A3 l3.length c4,.slice A5 l4.length c5,.slice A6 l5.length c6,.int .i64 a1],.slice A1 l1.length c1] w fun e w'=>e=.returned (.bool r)∧Below w.heap.size w w':=by
 have hu0:=Tryd.underlying28
 have hu1:=Tryd.underlying58
 have HO0:=am (show Kd.V k96 96 w w.heap.size (fun k_=>((P0 k_∨P1 k_∨P2 k_∨P3 k_∨P4 k_)∨w.heap.size≤k_)) (.slice A0 l0.length c0) l0 from Kd.V_mono hs0 (fun k_ hk=>.inl (.inl hk)))
 have HO1:=am (show Kd.V k98 98 w w.heap.size (fun k_=>((P0 k_∨P1 k_∨P2 k_∨P3 k_∨P4 k_)∨w.heap.size≤k_)) (.slice A2 l2.length c2) l2 from Kd.V_mono hs1 (fun k_ hk=>.inl (.inr (.inl hk))))
 have HO2:=am (show Kd.V k61 61 w w.heap.size (fun k_=>((P0 k_∨P1 k_∨P2 k_∨P3 k_∨P4 k_)∨w.heap.size≤k_)) (.slice A3 l3.length c4) l3 from Kd.V_mono hs2 (fun k_ hk=>.inl (.inr (.inr (.inl hk)))))
 have HO3:=am (show Kd.V k33 33 w w.heap.size (fun k_=>((P0 k_∨P1 k_∨P2 k_∨P3 k_∨P4 k_)∨w.heap.size≤k_)) (.slice A5 l4.length c5) l4 from Kd.V_mono hs3 (fun k_ hk=>.inl (.inr (.inr (.inr (.inl hk))))))
 have HO4:=am (show Kd.V k100 100 w w.heap.size (fun k_=>((P0 k_∨P1 k_∨P2 k_∨P3 k_∨P4 k_)∨w.heap.size≤k_)) (.slice A6 l5.length c6) l5 from Kd.V_mono hs4 (fun k_ hk=>.inl (.inr (.inr (.inr (.inr hk))))))
 have HR1:=am hr1
 have HC1:=am hc1
 clear hr1 hc1
 have HB:=am (Below.refl w.heap.size w)
 have H:(if (l1.length:Int)≤50 then ((carrefourlaw06_Few.f k 0 0 0 0 0 (([(⟨a0,l0,l2,l3,l4,l5,a1⟩:S28)]:List (S28))) ([]:List (S87)) 0 0).bind fun t0=>(some t0)) else (some false))=some r:=h
 clear h
 by_cases c3:(l1.length:Int)≤50;{
 rw [if_pos c3] at H
 have c8:decide ((l1.length:Int)≤50)=true:=decide_eq_true c3
 have c9:decide (l1.length≤50)=true:=decide_eq_true (by omega)
 clear c3
 obtain ⟨y0,hy0⟩:∃ y_:List (S28),y_=(([(⟨a0,l0,l2,l3,l4,l5,a1⟩:S28)]:List (S28))):=⟨_,rfl⟩
 replace H:((carrefourlaw06_Few.f k 0 0 0 0 0 y0 ([]:List (S87)) 0 0).bind fun t0=>(some t0))=some r:=by first|(rw [hy0];with_reducible exact H)|(have H0:=(Option.bind_some _ _).symm.trans H;rw [hy0];with_reducible exact H0)|(have H0:=(Option.bind_some _ _).symm.trans H;with_reducible exact H0)|with_reducible exact H|(rw [hy0];exact H)|exact H
 have Ny0:=am hy0
 clear hy0
 replace H:=bi_ H;obtain ⟨t0,A4,H⟩:=H
 (try dsimp only at H)
 obtain rfl:=Option.some.inj H
 go_enter Tryd.func5,Tryd.ntmps5
 go_wp2_with (first|((with_reducible refine gate_dst (N:=2) rfl ?_);(try (refine gate_guard (by rfl) ?_;dsimp only));refine box_event ?hg (N:=2) ?hd (cs:=#[.string a0,.slice A0 l0.length c0,.slice A2 l2.length c2,.slice A3 l3.length c4,.slice A5 l4.length c5,.slice A6 l5.length c6,.int .i64 a1]) (t:=28) ?hr ?_;(case hd=>rfl);(case hg=>rfl);(case hr=>first|(go_simp;done)|(go_simp;rfl));intro gb0 hg w5 hbox hb;have BK0:=am (hbox);have GE0:=bz HB hg;replace HO0:=am (Kd.V_below (Kd.V_elderB (Vt_ HO0.out) gb0 (Nat.le_of_eq hg.symm)) hb);replace HO1:=am (Kd.V_below (Kd.V_elderB (Vt_ HO1.out) gb0 (Nat.le_of_eq hg.symm)) hb);replace HO2:=am (Kd.V_below (Kd.V_elderB (Vt_ HO2.out) gb0 (Nat.le_of_eq hg.symm)) hb);replace HO3:=am (Kd.V_below (Kd.V_elderB (Vt_ HO3.out) gb0 (Nat.le_of_eq hg.symm)) hb);replace HO4:=am (Kd.V_below (Kd.V_elderB (Vt_ HO4.out) gb0 (Nat.le_of_eq hg.symm)) hb);replace HB:=bs HB hb;clear hb hg;have hcz6:=X.k7 BK0)|((with_reducible refine gate_dst (N:=10) rfl ?_);(try (refine gate_guard (by rfl) ?_;dsimp only));refine Kd.N_lit k28 _ 28 ?hg (N':=10) ?hd (xs:=([(⟨a0,l0,l2,l3,l4,l5,a1⟩:S28)]:List (S28))) (inner:=[.string a0,.slice A0 l0.length c0,.slice A2 l2.length c2,.slice A3 l3.length c4,.slice A5 l4.length c5,.slice A6 l5.length c6,.int .i64 a1]) (ok:=(fun k_=>((P0 k_∨P1 k_∨P2 k_∨P3 k_∨P4 k_)∨w.heap.size≤k_)∧k_≠gb0)) (okp:=(fun k_=>((P0 k_∨P1 k_∨P2 k_∨P3 k_∨P4 k_)∨w.heap.size≤k_)∧k_≠gb0)) ?hr ?hp (fun _ hk=>hk) ((show ∀ k_,w5.heap.size≤k_→(fun k_=>((P0 k_∨P1 k_∨P2 k_∨P3 k_∨P4 k_)∨w.heap.size≤k_)∧k_≠gb0) k_ from fun k_ hk=>⟨(.inr (Nat.le_trans (below_size (bf HB)) hk)),Kd.freshB (g:=gb0) (o:=.cells #[.string a0,.slice A0 l0.length c0,.slice A2 l2.length c2,.slice A3 l3.length c4,.slice A5 l4.length c5,.slice A6 l5.length c6,.int .i64 a1] 28 (0,0)) (bx BK0) k_ hk⟩) _ (Nat.le_refl _)) (Below.refl _ _) (Nat.le_refl _) (by simp) ?_;(case hd=>rfl);(case hg=>rfl);(case hr=>first|(go_simp;done)|(go_simp;rfl));(case hp=>exact (Reps.c7 (show Kd.FK k28 _ _ (⟨a0,l0,l2,l3,l4,l5,a1⟩:S28) [.string a0,.slice A0 l0.length c0,.slice A2 l2.length c2,.slice A3 l3.length c4,.slice A5 l4.length c5,.slice A6 l5.length c6,.int .i64 a1] from (k28_mkF _ _ (⟨a0,l0,l2,l3,l4,l5,a1⟩:S28) (Kd.V_reads' (Kd.V_mono (ok':=(fun k_=>((P0 k_∨P1 k_∨P2 k_∨P3 k_∨P4 k_)∨w.heap.size≤k_)∧k_≠gb0)) (HO0.out) (fun k_ hk=>⟨hk.1,hk.2⟩))).2.1 (Kd.V_F (Kd.V_mono (ok':=(fun k_=>((P0 k_∨P1 k_∨P2 k_∨P3 k_∨P4 k_)∨w.heap.size≤k_)∧k_≠gb0)) (HO0.out) (fun k_ hk=>⟨hk.1,hk.2⟩))) (Kd.V_reads' (Kd.V_mono (ok':=(fun k_=>((P0 k_∨P1 k_∨P2 k_∨P3 k_∨P4 k_)∨w.heap.size≤k_)∧k_≠gb0)) (HO1.out) (fun k_ hk=>⟨hk.1,hk.2⟩))).2.1 (Kd.V_F (Kd.V_mono (ok':=(fun k_=>((P0 k_∨P1 k_∨P2 k_∨P3 k_∨P4 k_)∨w.heap.size≤k_)∧k_≠gb0)) (HO1.out) (fun k_ hk=>⟨hk.1,hk.2⟩))) (Kd.V_reads' (Kd.V_mono (ok':=(fun k_=>((P0 k_∨P1 k_∨P2 k_∨P3 k_∨P4 k_)∨w.heap.size≤k_)∧k_≠gb0)) (HO2.out) (fun k_ hk=>⟨hk.1,hk.2⟩))).2.1 (Kd.V_F (Kd.V_mono (ok':=(fun k_=>((P0 k_∨P1 k_∨P2 k_∨P3 k_∨P4 k_)∨w.heap.size≤k_)∧k_≠gb0)) (HO2.out) (fun k_ hk=>⟨hk.1,hk.2⟩))) (Kd.V_reads' (Kd.V_mono (ok':=(fun k_=>((P0 k_∨P1 k_∨P2 k_∨P3 k_∨P4 k_)∨w.heap.size≤k_)∧k_≠gb0)) (HO3.out) (fun k_ hk=>⟨hk.1,hk.2⟩))).2.1 (Kd.V_F (Kd.V_mono (ok':=(fun k_=>((P0 k_∨P1 k_∨P2 k_∨P3 k_∨P4 k_)∨w.heap.size≤k_)∧k_≠gb0)) (HO3.out) (fun k_ hk=>⟨hk.1,hk.2⟩))) (Kd.V_reads' (Kd.V_mono (ok':=(fun k_=>((P0 k_∨P1 k_∨P2 k_∨P3 k_∨P4 k_)∨w.heap.size≤k_)∧k_≠gb0)) (HO4.out) (fun k_ hk=>⟨hk.1,hk.2⟩))).2.1 (Kd.V_F (Kd.V_mono (ok':=(fun k_=>((P0 k_∨P1 k_∨P2 k_∨P3 k_∨P4 k_)∨w.heap.size≤k_)∧k_≠gb0)) (HO4.out) (fun k_ hk=>⟨hk.1,hk.2⟩))))) (Reps.none _ _)));intro v0 w7 ho8 hb hg_ hnew_;clear hg_ hnew_;(first|rw [← Ny0.out] at ho8|(simp only [Int.reduceToNat] at ho8;rw [← Ny0.out] at ho8));have HO5:=am (Kd.N_lower ho8 (below_size (bf HB)));replace HO0:=am (Kd.V_elder' (Vt_ HO0.out) (Kd.N_base ho8) hb);replace HO1:=am (Kd.V_elder' (Vt_ HO1.out) (Kd.N_base ho8) hb);replace HO2:=am (Kd.V_elder' (Vt_ HO2.out) (Kd.N_base ho8) hb);replace HO3:=am (Kd.V_elder' (Vt_ HO3.out) (Kd.N_base ho8) hb);replace HO4:=am (Kd.V_elder' (Vt_ HO4.out) (Kd.N_base ho8) hb);replace HB:=bs HB hb;clear hb ho8;obtain ⟨Ao9,co9,eo9⟩:=Kd.N_slice HO5.out;subst eo9)|(go_at_call 16;(refine (carrefourlaw06_Few.calls _ _ _ _ _ _ _ _ _ _ _ ([]:List (S87)) _ _ _ _ ?side1 ?side2 ?side3 ?side4 A4.out).mono ?_);(case side1=>repeat (first|exact (Kd.N_reads' HO5.out).2.2|(with_reducible refine Kd.C_alloc ?_ _)|(with_reducible refine Kd.C_drewN ?_ _)|(with_reducible refine Kd.C_drew ?_)));(case side2=>exact (Kd.N_reads' HO5.out).2.1);(case side3=>exact Kd.C_nil _ _);(case side4=>exact Nat.le_refl _);rintro e w0 ⟨rfl,hb⟩;replace HO0:=am (Kd.V_below (Vt_ HO0.out) hb);replace HO1:=am (Kd.V_below (Vt_ HO1.out) hb);replace HO2:=am (Kd.V_below (Vt_ HO2.out) hb);replace HO3:=am (Kd.V_below (Vt_ HO3.out) hb);replace HO4:=am (Kd.V_below (Vt_ HO4.out) hb);replace HO5:=am (Kd.N_below (Nt_ HO5.out) hb);replace HB:=bs HB hb;(try clear hb)))
 go_ret
 exact ⟨ae,bf HB⟩};{
 rw [if_neg c3] at H
 have c8:decide ((l1.length:Int)≤50)=false:=decide_eq_false c3
 have c9:decide (l1.length≤50)=false:=decide_eq_false (by omega)
 clear c3
 obtain rfl:=Option.some.inj H
 go_enter Tryd.func5,Tryd.ntmps5
 go_wp2_with (first|((with_reducible refine gate_dst (N:=2) rfl ?_);(try (refine gate_guard (by rfl) ?_;dsimp only));refine box_event ?hg (N:=2) ?hd (cs:=#[.string a0,.slice A0 l0.length c0,.slice A2 l2.length c2,.slice A3 l3.length c4,.slice A5 l4.length c5,.slice A6 l5.length c6,.int .i64 a1]) (t:=28) ?hr ?_;(case hd=>rfl);(case hg=>rfl);(case hr=>first|(go_simp;done)|(go_simp;rfl));intro gb0 hg w1 hbox hb;have BK0:=am (hbox);have GE0:=bz HB hg;replace HO0:=am (Kd.V_below (Kd.V_elderB (Vt_ HO0.out) gb0 (Nat.le_of_eq hg.symm)) hb);replace HO1:=am (Kd.V_below (Kd.V_elderB (Vt_ HO1.out) gb0 (Nat.le_of_eq hg.symm)) hb);replace HO2:=am (Kd.V_below (Kd.V_elderB (Vt_ HO2.out) gb0 (Nat.le_of_eq hg.symm)) hb);replace HO3:=am (Kd.V_below (Kd.V_elderB (Vt_ HO3.out) gb0 (Nat.le_of_eq hg.symm)) hb);replace HO4:=am (Kd.V_below (Kd.V_elderB (Vt_ HO4.out) gb0 (Nat.le_of_eq hg.symm)) hb);replace HB:=bs HB hb;clear hb hg))
 go_ret
 exact ⟨ae,bf HB⟩}
theorem crit_Sum_1.calls (A0:Option Addr) (c0:Nat) (l0:List (S63)) (r:Bool) (w:World) (hr0:Kd.C k63 w A0 l0.length l0) (hc0:l0.length≤c0) (h:crit_Sum_1.f l0=some r) :
  Calls Tryd.prog 18 #[.agg #[.slice A0 l0.length c0]] w fun e w'=>e=.returned (.bool r)∧Below w.heap.size w w':=by
 have hu0:=Tryd.underlying33
 have HR0:=am hr0
 have HC0:=am hc0
 clear hr0 hc0
 have HB:=am (Below.refl w.heap.size w)
 have H:(some ((l0.length:Int)==0))=some r:=h
 clear h
 obtain rfl:=Option.some.inj H
 go_enter Tryd.func18,Tryd.ntmps18
 go_wp2_with (first|((with_reducible refine gd 1 rfl ?_);refine bx_ 1 33 #[.slice A0 l0.length c0] rfl rfl ?_;intro gb0 hg w2 BK0 hb;have GE0:=bz HB hg;replace HB:=bs HB hb;clear hb hg;have hcz3:=X.k1 BK0))
 go_ret
 exact ⟨ae,bf HB⟩
theorem frac_nought.calls  (r1:Int) (r2:Int) (w:World) (h:frac_nought.f =some (r1,r2)) :
  Calls Tryd.prog 41 #[] w fun e w'=>e=.returned (.agg #[.int .i64 r1,.int .i64 r2])∧Below w.heap.size w w':=by
 have hu0:=Tryd.underlying36
 have HB:=am (Below.refl w.heap.size w)
 have H:(some (0,1))=some (r1,r2):=h
 clear h
 simp only [Option.some.injEq,Prod.mk.injEq] at H
 obtain ⟨rfl,rfl⟩:=H
 go_enter Tryd.func41,Tryd.ntmps41
 go_wp2_with (first|((with_reducible refine gd 0 rfl ?_);refine bx_ 0 36 #[.int .i64 0,.int .i64 0] rfl rfl ?_;intro gb0 hg w1 BK0 hb;have GE0:=bz HB hg;replace HB:=bs HB hb;clear hb hg;have hcz2:=X.k2 BK0))
 refine bodyPost_ret (results_cell_row rfl _ _ gb0 36 #[.int .i64 0,.int .i64 1] (0,0) _ rfl (br_ BK0) Tryd.underlying36 rfl (by kernel_rfl)) rfl ?_
 exact ⟨ae,bf HB⟩
theorem whole_size.calls (a0:Int) (r:Int) (w:World) (h:whole_size.f a0=some r) :
  Calls Tryd.prog 66 #[.int .i64 a0] w fun e w'=>e=.returned (.int .u64 r)∧Drawn0 w w':=by
 have H:(if a0<0 then (some (IntKind.u64.wrap (-(IntKind.u64.wrap (a0))))) else (some (IntKind.u64.wrap (a0))))=some r:=h
 clear h
 by_cases c2:a0<0;{
 rw [if_pos c2] at H
 have c0:decide (a0<0)=true:=decide_eq_true c2
 clear c2
 obtain rfl:=Option.some.inj H
 go_enter Tryd.func66,Tryd.ntmps66
 go_wp2
 go_ret
 exact ⟨aq,dr⟩};{
 rw [if_neg c2] at H
 have c0:decide (a0<0)=false:=decide_eq_false c2
 clear c2
 obtain rfl:=Option.some.inj H
 go_enter Tryd.func66,Tryd.ntmps66
 go_wp2
 go_ret
 exact ⟨aq,dr⟩}
theorem whole_signed.calls (k:Nat) (a0:Int) (a1:Int) (r1:Int) (r2:Int) (w:World) (h:whole_signed.f k a0 a1=some (r1,r2)) :
  Calls Tryd.prog 74 #[.int .u64 a0,.int .i64 a1] w fun e w'=>e=.returned (.tuple #[.int .i64 r1,.int .i64 r2])∧Drawn0 w w':=by
 have H:(if a1<0 then (whole_signed.j0 k a0 (decide (a0≤9223372036854775808))) else (whole_signed.j0 k a0 false))=some (r1,r2):=h
 clear h
 have HC3:=am H
 clear H
 go_enter Tryd.func74,Tryd.ntmps74
 go_upto_region 1 with (fail)
 go_cut [6] (fun v6 wc=>∃ (kq:Nat) (x0:Bool),v6=.bool x0∧Aside0 (whole_signed.j0 kq a0 x0=some (r1,r2))∧Aside0 (kq≤k)∧Drawn0 w wc)
 case first =>skip;{
 have H:=HC3.out
 clear HC3
 by_cases c4:a1<0;{
 rw [if_pos c4] at H
 have c0:decide (a1<0)=true:=decide_eq_true c4
 clear c4
 (first|rw [c0]|(simp only [i64_w,i32_w];rw [c0])|skip)
 have H':=am H
 clear H
 go_wp2
 go_meet
 case rel=>exact ⟨_,(decide (a0≤9223372036854775808)),(aq),H',⟨by first|omega|exact Nat.le_refl _⟩,dr⟩};{
 rw [if_neg c4] at H
 have c0:decide (a1<0)=false:=decide_eq_false c4
 clear c4
 (first|rw [c0]|(simp only [i64_w,i32_w];rw [c0])|skip)
 have H':=am H
 clear H
 go_wp2
 go_meet
 case rel=>exact ⟨_,(false),(aq),H',⟨by first|omega|exact Nat.le_refl _⟩,dr⟩}}
 case rest =>skip;{
 clear HC3
 (try clear p2);(try clear c4);(try clear c0)
 obtain ⟨kq,x0,rfl,HA,HJ2,⟨mc2,rfl⟩⟩:=hcut
 cases kq with
 | zero=>exact absurd HA.out (by simp [whole_signed.j0])
 | succ kj2 =>skip;{
 have H:=HA.out
 clear HA
 simp only [whole_signed.j0] at H
 by_cases c5:x0=true;{
 subst c5
 have H1:(some (wrap64 (IntKind.u64.wrap (-a0)),0))=some (r1,r2):=by rw [if_pos rfl] at H;exact H
 clear H
 have H:=H1
 clear H1
 simp only [Option.some.injEq,Prod.mk.injEq] at H
 obtain ⟨rfl,rfl⟩:=H
 go_wp2
 go_ret2
 exact ⟨aq,dr⟩};{
 replace c5:=Bool.eq_false_iff.mpr c5
 subst c5
 have H1:(if a0≤9223372036854775807 then (some (wrap64 (a0),0)) else (some (0,2)))=some (r1,r2):=by rw [if_neg (show ¬ (false=true) by decide)] at H;exact H
 clear H
 have H:=H1
 clear H1
 by_cases c6:a0≤9223372036854775807;{
 rw [if_pos c6] at H
 have c1:decide (a0≤9223372036854775807)=true:=decide_eq_true c6
 clear c6
 simp only [Option.some.injEq,Prod.mk.injEq] at H
 obtain ⟨rfl,rfl⟩:=H
 go_wp2
 go_ret2
 exact ⟨aq,dr⟩};{
 rw [if_neg c6] at H
 have c1:decide (a0≤9223372036854775807)=false:=decide_eq_false c6
 clear c6
 simp only [Option.some.injEq,Prod.mk.injEq] at H
 obtain ⟨rfl,rfl⟩:=H
 go_wp2
 go_ret2
 exact ⟨aq,dr⟩}}}}
theorem tz64_key (x a:Nat) (hx:x<18446744073709551616) (hx0:x≠0) (hlow:x &&& (18446744073709551616-x)=a) :
    IntKind.u64.wrap (Go.bits BinOp.and IntKind.u64 (x:Int) (IntKind.u64.wrap (-(x:Int)))*285870213051353865) / 288230376151711744=((a*285870213051353865 % 18446744073709551616 / 288230376151711744:Nat):Int):=by
 have e1:IntKind.u64.wrap (-(x:Int))=((18446744073709551616-x:Nat):Int):=by rw [IntKind.wrap_u64];omega
 rw [e1,bits_and_u64_nat x _ hx (by omega),hlow,IntKind.wrap_u64]
 omega
set_option maxHeartbeats 1000000 in
theorem tz64_core (x k idx:Nat) (w:World) (hx0:((x:Int)==0)=false)
    (key:IntKind.u64.wrap (Go.bits BinOp.and IntKind.u64 (x:Int) (IntKind.u64.wrap (-(x:Int)))*285870213051353865) / 288230376151711744=(idx:Int))
    (hi:idx<64) (hk:k<64) (hcell:w.cell? ⟨0,idx,none⟩=some (.int .u8 k)) :
    Calls Tryd.prog 83 #[.int .u64 x] w fun e w'=>e=.returned (.int .i64 k)∧w'=w:=by
 go_enter Tryd.func83,Tryd.ntmps83
 go_wp2_with (simp only [key])
 go_ret
 exact ⟨rfl,rfl⟩
theorem tz64_zero (w:World):Calls Tryd.prog 83 #[.int .u64 0] w fun e w'=>e=.returned (.int .i64 64)∧w'=w:=by
 go_enter Tryd.func83,Tryd.ntmps83
 go_wp2
 go_ret
 exact ⟨rfl,rfl⟩
theorem bits_TrailingZeros64.calls (a0 r:Int) (w:World) (h:bits_TrailingZeros64.f a0=some r) (hT:TabOK w) :
  Calls Tryd.prog 83 #[.int .u64 a0] w fun e w'=>e=.returned (.int .i64 r)∧Drawn0 w w':=by
 unfold bits_TrailingZeros64.f at h
 by_cases c:0≤a0∧a0<18446744073709551616;{
 rw [if_pos c] at h
 obtain rfl:=Option.some.inj h
 obtain ⟨x,rfl⟩:=Int.eq_ofNat_of_zero_le c.1
 have hx:x<18446744073709551616:=by omega
 by_cases hx0:x=0;{
 subst hx0
 exact (tz64_zero w).mono fun e w' ⟨he,hw⟩=>⟨he,by rw [hw];exact Drawn0.refl _⟩};{
 obtain ⟨hlow,hk⟩:=Lib.lowest_bit 64 x hx0 hx
 obtain ⟨hi,htab⟩:=Lib.deBruijn64_at _ hk
 have hcell:=hT.tz _ hi
 rw [htab] at hcell
 exact (tz64_core x _ _ w (by simp;omega) (tz64_key x _ hx hx0 hlow) hi hk hcell).mono fun e w' ⟨he,hw⟩=>⟨he,by rw [hw];exact Drawn0.refl _⟩}};{
 rw [if_neg c] at h
 cases h}
theorem whole_gcd.calls (k:Nat) (a0:Int) (a1:Int) (r:Int) (w:World) (h:whole_gcd.f k a0 a1=some r) (hT:TabOK w) :
  Calls Tryd.prog 75 #[.int .u64 a0,.int .u64 a1] w fun e w'=>e=.returned (.int .u64 r)∧Drawn0 w w':=by
 have GT:=am hT
 clear hT
 have H:(if a0=0 then (whole_gcd.j0 k a0 a1 true) else (whole_gcd.j0 k a0 a1 (a1==0)))=some r:=h
 clear h
 have HC3:=am H
 clear H
 go_enter Tryd.func75,Tryd.ntmps75
 go_upto_region 1 with (fail)
 go_cut [11] (fun v2 wc=>∃ (kq:Nat) (x0:Bool),v2=.bool x0∧Aside0 (whole_gcd.j0 kq a0 a1 x0=some r)∧Aside0 (kq≤k)∧Drawn0 w wc)
 case first =>skip;{
 have H:=HC3.out
 clear HC3
 by_cases c4:a0=0;{
 rw [if_pos c4] at H
 have c0:(a0==0)=true:=beq_iff_eq.mpr c4
 have c1:(a0 != 0)=false:=bne_eq_false_iff_eq.mpr c4
 clear c4
 (first|rw [c0]|(simp only [i64_w,i32_w];rw [c0])|skip)
 have H':=am H
 clear H
 go_wp2
 go_meet
 case rel=>exact ⟨_,(true),(aq),H',⟨by first|omega|exact Nat.le_refl _⟩,dr⟩};{
 rw [if_neg c4] at H
 have c0:(a0==0)=false:=beq_eq_false_iff_ne.mpr c4
 have c1:(a0 != 0)=true:=bne_iff_ne.mpr c4
 (first|rw [c0]|(simp only [i64_w,i32_w];rw [c0])|skip)
 have H':=am H
 clear H
 go_wp2
 go_meet
 case rel=>exact ⟨_,((a1==0)),(aq),H',⟨by first|omega|exact Nat.le_refl _⟩,dr⟩}}
 case rest =>skip;{
 clear HC3
 (try clear p2);(try clear c4);(try clear c0);(try clear c1)
 obtain ⟨kq,x0,rfl,HA,HJ2,⟨mc2,rfl⟩⟩:=hcut
 cases kq with
 | zero=>exact absurd HA.out (by simp [whole_gcd.j0])
 | succ kj2 =>skip;{
 have H:=HA.out
 clear HA
 simp only [whole_gcd.j0] at H
 by_cases c5:x0=true;{
 subst c5
 have H1:(some (Go.bits .or .u64 a0 a1))=some r:=by rw [if_pos rfl] at H;exact H
 clear H
 have H:=H1
 clear H1
 obtain rfl:=Option.some.inj H
 go_wp2
 go_ret
 exact ⟨aq,dr⟩};{
 replace c5:=Bool.eq_false_iff.mpr c5
 subst c5
 have H1:((bits_TrailingZeros64.f (Go.bits .or .u64 a0 a1)).bind fun t0=>((bits_TrailingZeros64.f a0).bind fun t1=>(if 0≤t1 then (whole_gcd.l0 kj2 (shr .u64 a0 t1) a1 t0) else (none))))=some r:=by rw [if_neg (show ¬ (false=true) by decide)] at H;exact H
 clear H
 have H:=H1
 clear H1
 replace H:=bi_ H;obtain ⟨t0,A6,H⟩:=H
 (try dsimp only at H)
 replace H:=bi_ H;obtain ⟨t1,A7,H⟩:=H
 (try dsimp only at H)
 by_cases c8:0≤t1;{
 rw [if_pos c8] at H
 have c3:=eq_true c8
 have c6:decide (0≤t1)=true:=decide_eq_true c8
 clear c8
 obtain ⟨ji9,hji9⟩:∃ j_:Int,(shr .u64 a0 t1)=j_:=⟨_,rfl⟩
 replace H:(whole_gcd.l0 kj2 ji9 a1 t0)=some r:=by first|(rw [hji9] at H;exact H)|(simp only [hji9] at H ⊢;exact H)
 (try rw [hji9] at A6)
 (try rw [hji9] at A7)
 have hji0:(a0 / 2 ^ min t1.toNat 64)=ji9:=hji9
 have hji9z:t1≤64→(a0 / 2 ^ t1.toNat)=ji9:=shr_small hji9
 have H':=am H
 clear H
 go_wp2_with (first|((with_reducible refine gc 83 rfl ?_);refine gm_ (some 18) rfl rfl Tryd.func83 (bits_TrailingZeros64.calls (Go.bits .or .u64 a0 a1) _ _ A6.out (tt GT)) ag ?_;rintro w' ⟨nd,rfl⟩)|((with_reducible refine gc 83 rfl ?_);refine gm_ (some 21) rfl rfl Tryd.func83 (bits_TrailingZeros64.calls _ _ _ A7.out (tt GT)) ag ?_;rintro w' ⟨nd,rfl⟩))
 go_loopg [0,1] kj2 (fun kq v0 v1 w'=>∃ (x1:Int) (x2:Int),v0=.int .u64 x1∧v1=.int .u64 x2∧Aside0 (whole_gcd.l0 kq x1 x2 t0=some r)∧Aside0 (kq≤kj2)∧Drawn0 w w')
 case atStart=>exact ⟨(ji9),(a1),(by first|rfl|(simp;done)|(simp only [← hji9]<;>(first|rfl|simp))|(simp [*];done)),(aq),H',⟨Nat.le_refl _⟩,dr⟩
 case round =>skip;{
 clear H'
 (try clear c2);(try clear p2);(try clear c4);(try clear c0);(try clear c1);(try clear c5);(try clear c7);(try clear c8);(try clear c3);(try clear c6);(try clear p2)
 obtain ⟨x1,x2,rfl,rfl,HA,HK2,⟨m2,rfl⟩⟩:=hrel
 cases gk with
 | zero=>exact absurd HA.out (by simp [whole_gcd.l0])
 | succ k2 =>skip;{
 have H:=HA.out
 clear HA
 simp only [whole_gcd.l0] at H
 by_cases c9:x2=0;{
 rw [if_pos c9] at H
 have c12:(x2==0)=true:=beq_iff_eq.mpr c9
 have c13:(x2 != 0)=false:=bne_eq_false_iff_eq.mpr c9
 clear c9
 by_cases c11:0≤t0;{
 rw [if_pos c11] at H
 have c17:=eq_true c11
 have c18:decide (0≤t0)=true:=decide_eq_true c11
 clear c11
 obtain ⟨ji0,hji1⟩:∃ j_:Int,(shl .u64 x1 t0)=j_:=⟨_,rfl⟩
 replace H:(some ji0)=some r:=by first|(rw [hji1] at H;exact H)|(simp only [hji1] at H ⊢;exact H)
 have hji2:(IntKind.u64.wrap (x1*2 ^ min t0.toNat 64))=ji0:=hji1
 have hji12z:t0≤64→(IntKind.u64.wrap (x1*2 ^ t0.toNat))=ji0:=shl_small hji1
 obtain rfl:=Option.some.inj H
 go_wp2
 go_ret
 exact ⟨by first|rfl|(simp;done)|(simp only [← hji9,← hji1]<;>(first|rfl|simp))|(simp [*];done),dr⟩};{
 rw [if_neg c11] at H
 exact absurd H (by simp)}};{
 rw [if_neg c9] at H
 have c12:(x2==0)=false:=beq_eq_false_iff_ne.mpr c9
 have c13:(x2 != 0)=true:=bne_iff_ne.mpr c9
 replace H:=bi_ H;obtain ⟨t2,A0,H⟩:=H
 (try dsimp only at H)
 by_cases c14:0≤t2;{
 rw [if_pos c14] at H
 have c20:=eq_true c14
 have c21:decide (0≤t2)=true:=decide_eq_true c14
 clear c14
 obtain ⟨ji1,hji3⟩:∃ j_:Int,(shr .u64 x2 t2)=j_:=⟨_,rfl⟩
 replace H:(if x1>(ji1) then (whole_gcd.l0 k2 ji1 (IntKind.u64.wrap (x1-(ji1))) t0) else (whole_gcd.l0 k2 x1 (IntKind.u64.wrap ((ji1)-x1)) t0))=some r:=by first|(rw [hji3] at H;exact H)|(simp only [hji3] at H ⊢;exact H)
 (try rw [hji3] at A0)
 have hji4:(x2 / 2 ^ min t2.toNat 64)=ji1:=hji3
 have hji15z:t2≤64→(x2 / 2 ^ t2.toNat)=ji1:=shr_small hji3
 by_cases c16:x1>(ji1);{
 rw [if_pos c16] at H
 have c23:decide ((ji1)<x1)=true:=decide_eq_true c16
 clear c16
 have H':=am H
 clear H
 go_wp2_with (first|((with_reducible refine gc 83 rfl ?_);refine gm_ (some 27) rfl rfl Tryd.func83 (bits_TrailingZeros64.calls _ _ _ A0.out (tt GT)) ag ?_;rintro w' ⟨nd,rfl⟩))
 go_roundg k2
 case measure=>have:=HJ2.out;have:=HK2.out;omega
 case rel=>exact ⟨(ji1),(IntKind.u64.wrap (x1-(ji1))),(by first|rfl|(simp;done)|(simp only [← hji3]<;>(first|rfl|simp))|(simp [*];done)),(by first|rfl|(simp;done)|(simp only [← hji3]<;>(first|rfl|simp))|(simp [*];done)),H',⟨by have:=HJ2.out;have:=HK2.out;omega⟩,dr⟩};{
 rw [if_neg c16] at H
 have c23:decide ((ji1)<x1)=false:=decide_eq_false c16
 clear c16
 have H':=am H
 clear H
 go_wp2_with (first|((with_reducible refine gc 83 rfl ?_);refine gm_ (some 27) rfl rfl Tryd.func83 (bits_TrailingZeros64.calls _ _ _ A0.out (tt GT)) ag ?_;rintro w' ⟨nd,rfl⟩))
 go_roundg k2
 case measure=>have:=HJ2.out;have:=HK2.out;omega
 case rel=>exact ⟨(x1),(IntKind.u64.wrap ((ji1)-x1)),(aq),(by first|rfl|(simp;done)|(simp only [← hji3]<;>(first|rfl|simp))|(simp [*];done)),H',⟨by have:=HJ2.out;have:=HK2.out;omega⟩,dr⟩}};{
 rw [if_neg c14] at H
 exact absurd H (by simp)}}}}};{
 rw [if_neg c8] at H
 exact absurd H (by simp)}}}}
theorem whole_Gcd.calls (k:Nat) (a0:Int) (a1:Int) (r1:Int) (r2:Int) (w:World) (h:whole_Gcd.f k a0 a1=some (r1,r2)) (hT:TabOK w) :
  Calls Tryd.prog 64 #[.int .i64 a0,.int .i64 a1] w fun e w'=>e=.returned (.tuple #[.int .i64 r1,.int .i64 r2])∧Drawn0 w w':=by
 have GT:=am hT
 clear hT
 have H:((whole_size.f a0).bind fun t0=>((whole_size.f a1).bind fun t1=>((whole_gcd.f k t0 t1).bind fun t2=>((whole_signed.f k t2 1).bind fun bt0=>(some (bt0.1,bt0.2))))))=some (r1,r2):=h
 clear h
 replace H:=bi_ H;obtain ⟨t0,A3,H⟩:=H
 (try dsimp only at H)
 replace H:=bi_ H;obtain ⟨t1,A4,H⟩:=H
 (try dsimp only at H)
 replace H:=bi_ H;obtain ⟨t2,A5,H⟩:=H
 (try dsimp only at H)
 replace H:=bi_ H;obtain ⟨⟨t3,t4⟩,A6,H⟩:=H
 (try dsimp only at H)
 simp only [Option.some.injEq,Prod.mk.injEq] at H
 obtain ⟨rfl,rfl⟩:=H
 go_enter Tryd.func64,Tryd.ntmps64
 go_wp2_with (first|((with_reducible refine gc 66 rfl ?_);refine gm_ (some 7) rfl rfl Tryd.func66 (whole_size.calls _ _ _ A3.out) ag ?_;rintro w' ⟨nd,rfl⟩)|((with_reducible refine gc 66 rfl ?_);refine gm_ (some 9) rfl rfl Tryd.func66 (whole_size.calls _ _ _ A4.out) ag ?_;rintro w' ⟨nd,rfl⟩)|((with_reducible refine gc 75 rfl ?_);refine gm_ (some 10) rfl rfl Tryd.func75 (whole_gcd.calls _ _ _ _ _ A5.out (tt GT)) ag ?_;rintro w' ⟨nd,rfl⟩)|((with_reducible refine gc 74 rfl ?_);refine gm_ (some 11) rfl rfl Tryd.func74 (whole_signed.calls _ _ _ _ _ _ A6.out) ag ?_;rintro w' ⟨nd,rfl⟩))
 go_ret2
 exact ⟨aq,dr⟩
theorem frac_Right.calls (k:Nat) (a0:Int) (a1:Int) (r:Bool) (w:World) (h:frac_Right.f k a0 a1=some r) (hT:TabOK w) :
  Calls Tryd.prog 56 #[.agg #[.int .i64 a0,.int .i64 a1]] w fun e w'=>e=.returned (.bool r)∧Below w.heap.size w w':=by
 have GT:=am hT
 clear hT
 have hu0:=Tryd.underlying36
 have HB:=am (Below.refl w.heap.size w)
 have H:((whole_Gcd.f k a0 a1).bind fun bt0=>(if a1≥1 then (if bt0.2=0 then (some (bt0.1==1)) else (some false)) else (some false)))=some r:=h
 clear h
 replace H:=bi_ H;obtain ⟨⟨t0,t1⟩,A2,H⟩:=H
 (try dsimp only at H)
 by_cases c3:a1≥1;{
 rw [if_pos c3] at H
 have c0:decide (1≤a1)=true:=decide_eq_true c3
 clear c3
 by_cases c4:t1=0;{
 rw [if_pos c4] at H
 have c1:(t1==0)=true:=beq_iff_eq.mpr c4
 have c2:(t1 != 0)=false:=bne_eq_false_iff_eq.mpr c4
 clear c4
 obtain rfl:=Option.some.inj H
 go_enter Tryd.func56,Tryd.ntmps56
 go_wp2_with (first|((with_reducible refine gd 1 rfl ?_);refine bx_ 1 36 #[.int .i64 a0,.int .i64 a1] rfl rfl ?_;intro gb0 hg w5 BK0 hb;have GE0:=bz HB hg;replace HB:=bs HB hb;clear hb hg;have hcz6:=X.k2 BK0)|((with_reducible refine gc 64 rfl ?_);refine gm_ (some 10) rfl rfl Tryd.func64 (whole_Gcd.calls _ _ _ _ _ _ A2.out (tt GT)) ag ?_;rintro w' ⟨nd,rfl⟩))
 go_ret
 exact ⟨ae,bf HB⟩};{
 rw [if_neg c4] at H
 have c1:(t1==0)=false:=beq_eq_false_iff_ne.mpr c4
 have c2:(t1 != 0)=true:=bne_iff_ne.mpr c4
 obtain rfl:=Option.some.inj H
 go_enter Tryd.func56,Tryd.ntmps56
 go_wp2_with (first|((with_reducible refine gd 1 rfl ?_);refine bx_ 1 36 #[.int .i64 a0,.int .i64 a1] rfl rfl ?_;intro gb0 hg w7 BK0 hb;have GE0:=bz HB hg;replace HB:=bs HB hb;clear hb hg;have hcz8:=X.k2 BK0)|((with_reducible refine gc 64 rfl ?_);refine gm_ (some 10) rfl rfl Tryd.func64 (whole_Gcd.calls _ _ _ _ _ _ A2.out (tt GT)) ag ?_;rintro w' ⟨nd,rfl⟩))
 go_ret
 exact ⟨ae,bf HB⟩}};{
 rw [if_neg c3] at H
 have c0:decide (1≤a1)=false:=decide_eq_false c3
 clear c3
 obtain rfl:=Option.some.inj H
 go_enter Tryd.func56,Tryd.ntmps56
 go_wp2_with (first|((with_reducible refine gd 1 rfl ?_);refine bx_ 1 36 #[.int .i64 a0,.int .i64 a1] rfl rfl ?_;intro gb0 hg w9 BK0 hb;have GE0:=bz HB hg;replace HB:=bs HB hb;clear hb hg;have hcz0:=X.k2 BK0)|((with_reducible refine gc 64 rfl ?_);refine gm_ (some 10) rfl rfl Tryd.func64 (whole_Gcd.calls _ _ _ _ _ _ A2.out (tt GT)) ag ?_;rintro w' ⟨nd,rfl⟩))
 go_ret
 exact ⟨ae,bf HB⟩}
theorem frac_norm.calls (k:Nat) (a0:Int) (a1:Int) (r1:Int) (r2:Int) (w:World) (h:frac_norm.f k a0 a1=some (r1,r2)) (hT:TabOK w) :
  Calls Tryd.prog 50 #[.agg #[.int .i64 a0,.int .i64 a1]] w fun e w'=>e=.returned (.agg #[.int .i64 r1,.int .i64 r2])∧Below w.heap.size w w':=by
 have GT:=am hT
 clear hT
 have hu0:=Tryd.underlying36
 have HB:=am (Below.refl w.heap.size w)
 have H:((frac_Right.f k a0 a1).bind fun t0=>(if t0=true then (some (a0,a1)) else ((frac_nought.f).bind fun bt0=>(some (bt0.1,bt0.2)))))=some (r1,r2):=h
 clear h
 replace H:=bi_ H;obtain ⟨t0,A2,H⟩:=H
 (try dsimp only at H)
 by_cases c3:t0=true;{
 subst c3
 have H1:(some (a0,a1))=some (r1,r2):=by rw [if_pos rfl] at H;exact H
 clear H
 have H:=H1
 clear H1
 simp only [Option.some.injEq,Prod.mk.injEq] at H
 obtain ⟨rfl,rfl⟩:=H
 go_enter Tryd.func50,Tryd.ntmps50
 go_wp2_with (first|((with_reducible refine gd 1 rfl ?_);refine bx_ 1 36 #[.int .i64 a0,.int .i64 a1] rfl rfl ?_;intro gb0 hg w4 BK0 hb;have GE0:=bz HB hg;replace HB:=bs HB hb;clear hb hg)|((with_reducible refine gd 2 rfl ?_);refine bx_ 2 36 #[.int .i64 0,.int .i64 0] rfl rfl ?_;intro gb1 hg w5 BK1 hb;have GE1:=bz HB hg;have ⟨NB0,NB1⟩:=nb BK0 hg;replace BK0:=bb BK0 hb;replace HB:=bs HB hb;clear hb hg;have hnb6:=nn NB0;have hcz7:=X.k2 BK0)|((with_reducible refine gc 56 rfl ?_);refine gm_ (some 4) rfl rfl Tryd.func56 (frac_Right.calls _ _ _ _ _ A2.out (tt GT)) ag ?_;intro w8 hb;replace BK0:=bb BK0 hb;replace BK1:=bb BK1 hb;replace HB:=bs HB hb;(try clear hb);have hcz9:=X.k2 BK0;have hcz0:=X.k2 BK1))
 refine bodyPost_ret (results_cell_row rfl _ _ gb1 36 #[.int .i64 a0,.int .i64 a1] (0,0) _ rfl (br_ BK1) Tryd.underlying36 rfl (by kernel_rfl)) rfl ?_
 exact ⟨ae,bf HB⟩};{
 replace c3:=Bool.eq_false_iff.mpr c3
 subst c3
 have H1:((frac_nought.f).bind fun bt0=>(some (bt0.1,bt0.2)))=some (r1,r2):=by rw [if_neg (show ¬ (false=true) by decide)] at H;exact H
 clear H
 have H:=H1
 clear H1
 replace H:=bi_ H;obtain ⟨⟨t1,t2⟩,A0,H⟩:=H
 (try dsimp only at H)
 simp only [Option.some.injEq,Prod.mk.injEq] at H
 obtain ⟨rfl,rfl⟩:=H
 go_enter Tryd.func50,Tryd.ntmps50
 go_wp2_with (first|((with_reducible refine gd 1 rfl ?_);refine bx_ 1 36 #[.int .i64 a0,.int .i64 a1] rfl rfl ?_;intro gb0 hg w0 BK0 hb;have GE0:=bz HB hg;replace HB:=bs HB hb;clear hb hg)|((with_reducible refine gd 2 rfl ?_);refine bx_ 2 36 #[.int .i64 0,.int .i64 0] rfl rfl ?_;intro gb1 hg w1 BK1 hb;have GE1:=bz HB hg;have ⟨NB0,NB1⟩:=nb BK0 hg;replace BK0:=bb BK0 hb;replace HB:=bs HB hb;clear hb hg;have hnb0:=nn NB0;have hcz1:=X.k2 BK0)|((with_reducible refine gc 56 rfl ?_);refine gm_ (some 4) rfl rfl Tryd.func56 (frac_Right.calls _ _ _ _ _ A2.out (tt GT)) ag ?_;intro w2 hb;replace BK1:=bb BK1 hb;replace HB:=bs HB hb;(try clear hb))|((with_reducible refine gc 41 rfl ?_);refine gm_ (some 6) rfl rfl Tryd.func41 (frac_nought.calls _ _ _ A0.out) ag ?_;intro w3 hb;replace BK1:=bb BK1 hb;replace HB:=bs HB hb;(try clear hb);have hcz2:=X.k2 BK1))
 refine bodyPost_ret (results_cell_row rfl _ _ gb1 36 #[.int .i64 t1,.int .i64 t2] (0,0) _ rfl (br_ BK1) Tryd.underlying36 rfl (by kernel_rfl)) rfl ?_
 exact ⟨ae,bf HB⟩}
theorem frac_sized.calls (a0:Int) (r1:Bool) (r2:Int) (r3:Int) (w:World) (h:frac_sized.f a0=some (r1,r2,r3)) :
  Calls Tryd.prog 60 #[.int .i64 a0] w fun e w'=>e=.returned (.agg #[.bool r1,.int .u64 r2,.int .u64 r3])∧Below w.heap.size w w':=by
 have hu0:=Tryd.underlying107
 have hu1:=Tryd.underlying105
 have HB:=am (Below.refl w.heap.size w)
 have H:(if a0<0 then (some (true,0,IntKind.u64.wrap (-(IntKind.u64.wrap (a0))))) else (some (false,0,IntKind.u64.wrap (a0))))=some (r1,r2,r3):=h
 clear h
 by_cases c2:a0<0;{
 rw [if_pos c2] at H
 have c0:decide (a0<0)=true:=decide_eq_true c2
 clear c2
 simp only [Option.some.injEq,Prod.mk.injEq] at H
 obtain ⟨rfl,rfl,rfl⟩:=H
 go_enter Tryd.func60,Tryd.ntmps60
 go_wp2_with (first|((with_reducible refine gd 2 rfl ?_);refine bx_ 2 107 #[.bool false,.int .u64 0,.int .u64 0] rfl rfl ?_;intro gb0 hg w3 BK0 hb;have GE0:=bz HB hg;replace HB:=bs HB hb;clear hb hg;have hcz4:=X.k3 BK0))
 refine bodyPost_ret (results_cell_row rfl _ _ gb0 107 #[.bool true,.int .u64 0,.int .u64 (IntKind.u64.wrap (-(IntKind.u64.wrap (a0))))] (0,0) _ rfl (br_ BK0) Tryd.underlying107 rfl (by kernel_rfl)) rfl ?_
 exact ⟨ae,bf HB⟩};{
 rw [if_neg c2] at H
 have c0:decide (a0<0)=false:=decide_eq_false c2
 clear c2
 simp only [Option.some.injEq,Prod.mk.injEq] at H
 obtain ⟨rfl,rfl,rfl⟩:=H
 go_enter Tryd.func60,Tryd.ntmps60
 go_wp2_with (first|((with_reducible refine gd 2 rfl ?_);refine bx_ 2 107 #[.bool false,.int .u64 0,.int .u64 0] rfl rfl ?_;intro gb0 hg w5 BK0 hb;have GE0:=bz HB hg;replace HB:=bs HB hb;clear hb hg;have hcz6:=X.k3 BK0))
 refine bodyPost_ret (results_cell_row rfl _ _ gb0 107 #[.bool false,.int .u64 0,.int .u64 (IntKind.u64.wrap (a0))] (0,0) _ rfl (br_ BK0) Tryd.underlying107 rfl (by kernel_rfl)) rfl ?_
 exact ⟨ae,bf HB⟩}
theorem bits_Mul64.calls (a0:Int) (a1:Int) (r1:Int) (r2:Int) (w:World) (h:bits_Mul64.f a0 a1=some (r1,r2)) :
  Calls Tryd.prog 65 #[.int .u64 a0,.int .u64 a1] w fun e w'=>e=.returned (.tuple #[.int .u64 r1,.int .u64 r2])∧Drawn0 w w':=by
 have H:(some (IntKind.u64.wrap ((IntKind.u64.wrap ((IntKind.u64.wrap ((a0 / 4294967296)*(a1 / 4294967296)))+((IntKind.u64.wrap ((IntKind.u64.wrap ((a0 / 4294967296)*(Go.bits .and .u64 a1 4294967295)))+((IntKind.u64.wrap ((Go.bits .and .u64 a0 4294967295)*(Go.bits .and .u64 a1 4294967295))) / 4294967296))) / 4294967296)))+((IntKind.u64.wrap ((Go.bits .and .u64 (IntKind.u64.wrap ((IntKind.u64.wrap ((a0 / 4294967296)*(Go.bits .and .u64 a1 4294967295)))+((IntKind.u64.wrap ((Go.bits .and .u64 a0 4294967295)*(Go.bits .and .u64 a1 4294967295))) / 4294967296))) 4294967295)+(IntKind.u64.wrap ((Go.bits .and .u64 a0 4294967295)*(a1 / 4294967296))))) / 4294967296)),IntKind.u64.wrap (a0*a1)))=some (r1,r2):=h
 clear h
 simp only [Option.some.injEq,Prod.mk.injEq] at H
 obtain ⟨rfl,rfl⟩:=H
 go_enter Tryd.func65,Tryd.ntmps65
 go_wp2
 go_ret2
 exact ⟨aq,dr⟩
theorem frac_multiply.calls (a0:Int) (a1:Int) (r1:Int) (r2:Int) (w:World) (h:frac_multiply.f a0 a1=some (r1,r2)) :
  Calls Tryd.prog 67 #[.int .u64 a0,.int .u64 a1] w fun e w'=>e=.returned (.agg #[.int .u64 r1,.int .u64 r2])∧Below w.heap.size w w':=by
 have hu0:=Tryd.underlying105
 have HB:=am (Below.refl w.heap.size w)
 have H:((bits_Mul64.f a0 a1).bind fun bt0=>(some (bt0.1,bt0.2)))=some (r1,r2):=h
 clear h
 replace H:=bi_ H;obtain ⟨⟨t0,t1⟩,A3,H⟩:=H
 (try dsimp only at H)
 simp only [Option.some.injEq,Prod.mk.injEq] at H
 obtain ⟨rfl,rfl⟩:=H
 go_enter Tryd.func67,Tryd.ntmps67
 go_wp2_with (first|((with_reducible refine gd 4 rfl ?_);refine bx_ 4 105 #[.int .u64 0,.int .u64 0] rfl rfl ?_;intro gb0 hg w4 BK0 hb;have GE0:=bz HB hg;replace HB:=bs HB hb;clear hb hg)|((with_reducible refine gc 65 rfl ?_);refine gm_ (some 10) rfl rfl Tryd.func65 (bits_Mul64.calls _ _ _ _ _ A3.out) ag ?_;rintro w' ⟨nd,rfl⟩;(try (rw [drewN_self w4];generalize hq_:World.drewN w4 _=w4;have n0:Aside0 (w4.heap[gb0]?=some (.cells #[.int .u64 0,.int .u64 0] 105 (0,0))):=⟨by rw [← hq_];exact (bx BK0)⟩;have n1:Aside0 (Below w.heap.size w w4):=⟨by rw [← hq_];exact (bf HB)⟩;clear BK0 HB hq_;have BK0:=n0;have HB:=n1;clear n0 n1));have hcz5:=X.k2 BK0))
 refine bodyPost_ret (results_cell_row rfl _ _ gb0 105 #[.int .u64 t0,.int .u64 t1] (0,0) _ rfl (br_ BK0) Tryd.underlying105 rfl (by kernel_rfl)) rfl ?_
 exact ⟨ae,bf HB⟩
end Go.Proofs.YtenphnkiacfmiaaDoor.X
