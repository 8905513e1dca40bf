/- Walks: each '.calls' says that the Go function comes to what its Lean function tells. Conditions: as each theorem's head says. -/
import Derived.Test.YtenphnkiacfmiaaDoorXD
import Derived.Test.YtenphnkiacfmiaaDoorX0
namespace Go.Proofs.YtenphnkiacfmiaaDoor.X
open Go.RowKit Go.Proofs.YtenphnkiacfmiaaDoorW.PrintWords Go.Proofs.YtenphnkiacfmiaaDoorW.PrintLast Go.Proofs.YtenphnkiacfmiaaDoorW.PrintMore
attribute [local go_sem] max2_int min2_int max_two min_two max_three min_three max_four min_four
set_option linter.unusedVariables false
set_option maxHeartbeats 8000000
set_option maxRecDepth 100000
set_option linter.unusedSimpArgs false
theorem carrefourlaw06_strings.calls (k:Nat) (A0:Option Addr) (c0:Nat) (l0:List ByteArray) (r:Bool) (w:World) (hr0:Kd.C Kd.string w A0 l0.length l0) (hc0:l0.length≤c0) (h:carrefourlaw06_strings.f k l0=some r) :
  Calls Tryd.prog 37 #[.slice A0 l0.length c0] w fun e w'=>e=.returned (.bool r)∧Drawn0 w w':=by
 have HR0:=am hr0
 have HC0:=am hc0
 clear hr0 hc0
 have H:(carrefourlaw06_strings.l0 k l0 0)=some r:=h
 clear h
 have H':=am H
 clear H
 go_enter Tryd.func37,Tryd.ntmps37
 go_wp2
 go_loopg [3] k (fun kq v3 w'=>∃ (x0:Int),v3=.int .i64 x0∧Aside0 (carrefourlaw06_strings.l0 kq l0 x0=some r)∧Aside0 (kq≤k)∧Drawn0 w w')
 case atStart=>exact ⟨(0),(aq),H',⟨Nat.le_refl _⟩,dr⟩
 case round =>skip;{
 clear H'
 obtain ⟨x0,rfl,HA,HK1,⟨m1,rfl⟩⟩:=hrel
 cases gk with
 | zero=>exact absurd HA.out (by simp [carrefourlaw06_strings.l0])
 | succ k1 =>skip;{
 have H:=HA.out
 clear HA
 simp only [carrefourlaw06_strings.l0] at H
 have HC2:=am H
 clear H
 go_upto_region 2 with (fail)
 go_cut [11] (fun v0 wc=>∃ (kq:Nat) (x1:Bool),v0=.bool x1∧Aside0 (carrefourlaw06_strings.j1 kq l0 x0 x1=some r)∧Aside0 (kq≤k1)∧Drawn0 w wc)
 case first =>skip;{
 have H:=HC2.out
 clear HC2
 by_cases c3:x0<(l0.length:Int);{
 rw [if_pos c3] at H
 have c1:decide (x0<(l0.length:Int))=true:=decide_eq_true c3
 clear c3
 (first|rw [c1]|(simp only [i64_w,i32_w];rw [c1])|skip)
 have H':=am H
 clear H
 go_wp2
 go_meet
 case rel=>exact ⟨_,(decide (x0<50)),(aq),H',⟨by have:=HK1.out;first|omega|exact Nat.le_refl _⟩,dr⟩};{
 rw [if_neg c3] at H
 have c1:decide (x0<(l0.length:Int))=false:=decide_eq_false c3
 clear c3
 (first|rw [c1]|(simp only [i64_w,i32_w];rw [c1])|skip)
 have H':=am H
 clear H
 go_wp2
 go_meet
 case rel=>exact ⟨_,(false),(aq),H',⟨by have:=HK1.out;first|omega|exact Nat.le_refl _⟩,dr⟩}}
 case rest =>skip;{
 clear HC2
 (try clear p2);(try clear c3);(try clear c1)
 obtain ⟨kq,x1,rfl,HA,HJ1,⟨mc1,rfl⟩⟩:=hcut
 cases kq with
 | zero=>exact absurd HA.out (by simp [carrefourlaw06_strings.j1])
 | succ kj1 =>skip;{
 have H:=HA.out
 clear HA
 simp only [carrefourlaw06_strings.j1] at H
 by_cases c4:x1=true;{
 subst c4
 have H1:(if 0≤x0 then (if x0<(l0.length:Int) then (if ((rdOf ByteArray.empty l0 x0).size:Int)>100 then (some false) else (carrefourlaw06_strings.l0 kj1 l0 (wrap64 (x0+1)))) else (none)) else (none))=some r:=by rw [if_pos rfl] at H;exact H
 clear H
 have H:=H1
 clear H1
 by_cases c5:0≤x0;{
 rw [if_pos c5] at H
 have c2:decide (0≤x0)=true:=decide_eq_true c5
 clear c5
 by_cases c6:x0<(l0.length:Int);{
 rw [if_pos c6] at H
 have c8:decide (x0<(l0.length:Int))=true:=decide_eq_true c6
 clear c6
 by_cases c7:((rdOf ByteArray.empty l0 x0).size:Int)>100;{
 rw [if_pos c7] at H
 have c9:decide (100<((rdOf ByteArray.empty l0 x0).size:Int))=true:=decide_eq_true c7
 have c10:decide (100<(rdOf ByteArray.empty l0 x0).size)=true:=decide_eq_true (by omega)
 clear c7
 obtain rfl:=Option.some.inj H
 have p0:0≤(x0:Int):=od_
 have q0:x0<(l0.length:Int):=od_
 obtain ⟨ad0,e0,hx0⟩:=Kd.at_string HR0.out x0 p0 q0
 cases e0
 replace p0:=eq_true p0
 replace q0:=eq_true q0
 go_wp2
 go_ret
 exact ⟨aq,dr⟩};{
 rw [if_neg c7] at H
 have c9:decide (100<((rdOf ByteArray.empty l0 x0).size:Int))=false:=decide_eq_false c7
 have c10:decide (100<(rdOf ByteArray.empty l0 x0).size)=false:=decide_eq_false (by omega)
 clear c7
 have H':=am H
 clear H
 have p0:0≤(x0:Int):=od_
 have q0:x0<(l0.length:Int):=od_
 obtain ⟨ad0,e0,hx0⟩:=Kd.at_string HR0.out x0 p0 q0
 cases e0
 replace p0:=eq_true p0
 replace q0:=eq_true q0
 go_wp2
 go_roundg kj1
 case measure=>have:=HK1.out;have:=HJ1.out;omega
 case rel=>exact ⟨(wrap64 (x0+1)),(aq),H',⟨by have:=HK1.out;have:=HJ1.out;omega⟩,dr⟩}};{
 rw [if_neg c6] at H
 exact absurd H (by simp)}};{
 rw [if_neg c5] at H
 exact absurd H (by simp)}};{
 replace c4:=Bool.eq_false_iff.mpr c4
 subst c4
 have H1:(some (decide ((l0.length:Int)≤50)))=some r:=by rw [if_neg (show ¬ (false=true) by decide)] at H;exact H
 clear H
 have H:=H1
 clear H1
 obtain rfl:=Option.some.inj H
 go_wp2
 go_ret
 exact ⟨aq,dr⟩}}}}}
end Go.Proofs.YtenphnkiacfmiaaDoor.X
