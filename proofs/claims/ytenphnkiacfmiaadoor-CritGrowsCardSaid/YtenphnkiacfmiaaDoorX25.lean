/- Walks: each '.calls' says that the Go function comes to what its Lean function tells. Conditions: as each theorem's head says. -/
import Derived.Test.YtenphnkiacfmiaaDoorXD
import Derived.Test.YtenphnkiacfmiaaDoorX0
namespace Go.Proofs.YtenphnkiacfmiaaDoor.X
open Go.RowKit Go.Proofs.YtenphnkiacfmiaaDoorW.PrintWords Go.Proofs.YtenphnkiacfmiaaDoorW.PrintLast Go.Proofs.YtenphnkiacfmiaaDoorW.PrintMore
attribute [local go_sem] max2_int min2_int max_two min_two max_three min_three max_four min_four
set_option linter.unusedVariables false
set_option maxHeartbeats 8000000
set_option maxRecDepth 100000
set_option linter.unusedSimpArgs false
theorem carrefourlaw11_below.calls (k:Nat) (A0:Option Addr) (c0:Nat) (l0:List (S36)) (r:Bool) (w:World) (hr0:Kd.C k36 w A0 l0.length l0) (hc0:l0.length≤c0) (h:carrefourlaw11_below.f k l0=some r) :
  Calls Tryd.prog 15 #[.slice A0 l0.length c0] w fun e w'=>e=.returned (.bool r)∧Drawn0 w w':=by
 have HR0:=am hr0
 have HC0:=am hc0
 clear hr0 hc0
 have H:(carrefourlaw11_below.l0 k l0 0)=some r:=h
 clear h
 have H':=am H
 clear H
 go_enter Tryd.func15,Tryd.ntmps15
 go_wp2
 go_loopg [3] k (fun kq v3 w'=>∃ (x0:Int),v3=.int .i64 x0∧Aside0 (carrefourlaw11_below.l0 kq l0 x0=some r)∧Aside0 (kq≤k)∧Drawn0 w w')
 case atStart=>exact ⟨(0),(aq),H',⟨Nat.le_refl _⟩,dr⟩
 case round =>skip;{
 clear H'
 (try clear c1)
 obtain ⟨x0,rfl,HA,HK1,⟨m1,rfl⟩⟩:=hrel
 cases gk with
 | zero=>exact absurd HA.out (by simp [carrefourlaw11_below.l0])
 | succ k1 =>skip;{
 have H:=HA.out
 clear HA
 simp only [carrefourlaw11_below.l0] at H
 by_cases c2:x0<(l0.length:Int);{
 rw [if_pos c2] at H
 have c5:decide (x0<(l0.length:Int))=true:=decide_eq_true c2
 clear c2
 by_cases c3:0≤x0;{
 rw [if_pos c3] at H
 have c6:decide (0≤x0)=true:=decide_eq_true c3
 clear c3
 by_cases c4:((rd_T36 l0 x0).f0)<0;{
 rw [if_pos c4] at H
 have c7:decide (((rd_T36 l0 x0).f0)<0)=true:=decide_eq_true c4
 clear c4
 obtain rfl:=Option.some.inj H
 have p0:0≤(x0:Int):=od_
 have q0:x0<(l0.length:Int):=od_
 obtain ⟨ad0,e0,hx0,hx1⟩:=at_T36 HR0.out x0 p0 q0
 cases e0
 replace p0:=eq_true p0
 replace q0:=eq_true q0
 go_wp2
 go_ret
 exact ⟨aq,dr⟩};{
 rw [if_neg c4] at H
 have c7:decide (((rd_T36 l0 x0).f0)<0)=false:=decide_eq_false c4
 clear c4
 have H':=am H
 clear H
 have p0:0≤(x0:Int):=od_
 have q0:x0<(l0.length:Int):=od_
 obtain ⟨ad0,e0,hx0,hx1⟩:=at_T36 HR0.out x0 p0 q0
 cases e0
 replace p0:=eq_true p0
 replace q0:=eq_true q0
 go_wp2
 go_roundg k1
 case measure=>have:=HK1.out;omega
 case rel=>exact ⟨(wrap64 (x0+1)),(aq),H',⟨by have:=HK1.out;omega⟩,dr⟩}};{
 rw [if_neg c3] at H
 exact absurd H (by simp)}};{
 rw [if_neg c2] at H
 have c5:decide (x0<(l0.length:Int))=false:=decide_eq_false c2
 clear c2
 obtain rfl:=Option.some.inj H
 go_wp2
 go_ret
 exact ⟨aq,dr⟩}}}
end Go.Proofs.YtenphnkiacfmiaaDoor.X
