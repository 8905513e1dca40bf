/- Walks: each '.calls' says that the Go function comes to what its Lean function tells. Conditions: as each theorem's head says. -/
import Derived.Test.YtenphnkiacfmiaaDoorXD
import Derived.Test.YtenphnkiacfmiaaDoorX0
import Derived.Test.YtenphnkiacfmiaaDoorX1
import Derived.Test.YtenphnkiacfmiaaDoorX16
import Derived.Test.YtenphnkiacfmiaaDoorX17
import Derived.Test.YtenphnkiacfmiaaDoorX18
namespace Go.Proofs.YtenphnkiacfmiaaDoor.X
open Go.RowKit Go.Proofs.YtenphnkiacfmiaaDoorW.PrintWords Go.Proofs.YtenphnkiacfmiaaDoorW.PrintLast Go.Proofs.YtenphnkiacfmiaaDoorW.PrintMore
attribute [local go_sem] max2_int min2_int max_two min_two max_three min_three max_four min_four
set_option linter.unusedVariables false
set_option maxHeartbeats 8000000
set_option maxRecDepth 100000
set_option linter.unusedSimpArgs false
attribute [local go_sem high] eqA36
def carrefourlaw11_awake.T5:Bool × List (List Nat × List Nat):=(true,[([],[]),([0],[0]),([1],[1]),([2],[2]),([3,2],[2,3]),([2,2],[2]),([4,5,2],[2,4,5]),([2,6],[2,6]),([7,5],[7]),([8],[8]),([9,8],[8,9]),([10,8],[8,10]),([11,8],[8,11]),([8,12],[8,12]),([13,8],[13]),([14],[14]),([15,14],[14,15]),([16,14],[14,16]),([17,14],[14,17]),([18,14],[14,18]),([14,19],[14,19]),([20,14],[20]),([21],[21]),([22,21],[21,22]),([23,21],[21,23]),([21,24],[21,24]),([25,21],[25]),([26],[26]),([27,26],[26,27]),([28,26],[26,28]),([29,26],[26,29]),([26,30],[26,30]),([31,26,0,1,2,3,4,5,6,7,8,9,10,11,12,13,14,15,16,17,18,19,20,21,22,23,24,25,26,27,28,29,30,31],[31])])
def carrefourlaw11_awake.B5:List Nat:=[0,1,3,7,15,7,63,127,255,511,1023,2047,4095,8191,16383,32767,65535,131071,262143,524287,1048575,2097151,4194303,8388607,16777215,33554431,67108863,134217727,268435455,536870911,1073741823,2147483647,4294967295]
theorem carrefourlaw11_awake.tab5:rtab .any (opsOf Tryd.f6 5)=carrefourlaw11_awake.T5:=by kernel_rfl
theorem carrefourlaw11_awake.bits5:waitsOk carrefourlaw11_awake.T5.2 carrefourlaw11_awake.B5=true:=by kernel_rfl
theorem carrefourlaw11_awake.calls (k:Nat)  (r:Bool) (w:World) (h:carrefourlaw11_awake.f k =some r) (hT:TabOK w) :
  Calls Tryd.prog 6 #[] w fun e w'=>e=.returned (.bool r)∧Below w.heap.size w w':=by
 have GT:=am hT
 clear hT
 have hu0:=Tryd.underlying61
 have hu1:=Tryd.underlying63
 have hu2:=Tryd.underlying33
 have hu3:=Tryd.underlying28
 have hu4:=Tryd.underlying39
 have hu5:=Tryd.underlying36
 have HB:=am (Below.refl w.heap.size w)
 have H:((some (([(⟨(⟨#[97]⟩:ByteArray),([]:List ByteArray),0⟩:S61),(⟨(⟨#[98]⟩:ByteArray),([]:List ByteArray),0⟩:S61),(⟨(⟨#[99]⟩:ByteArray),([]:List ByteArray),0⟩:S61),(⟨(⟨#[100]⟩:ByteArray),([]:List ByteArray),0⟩:S61)]:List (S61)):List (S61))).bind fun y0=>((some (([(⟨(([(⟨false,(([(⟨#[97]⟩:ByteArray),(⟨#[98]⟩:ByteArray)]:List ByteArray))⟩:S63),(⟨false,(([(⟨#[99]⟩:ByteArray)]:List ByteArray))⟩:S63)]:List (S63)))⟩:S33),(⟨(([(⟨false,(([(⟨#[100]⟩:ByteArray)]:List ByteArray))⟩:S63)]:List (S63)))⟩:S33)]:List (S33)):List (S33))).bind fun y1=>((carrefourlaw11_f.f k 1 4).bind fun bt0=>((carrefourlaw11_f.f k 1 5).bind fun bt1=>((carrefourlaw11_f.f k 2 5).bind fun bt2=>((carrefourlaw11_f.f k 1 10).bind fun bt3=>((some (([(⟨bt0.1,bt0.2⟩:S36),(⟨bt1.1,bt1.2⟩:S36),(⟨bt2.1,bt2.2⟩:S36),(⟨bt3.1,bt3.2⟩:S36)]:List (S36)):List (S36))).bind fun y2=>((crit_Sum.f k (⟨#[]⟩:ByteArray) ([]:List (S96)) ([]:List (S98)) y0 y1 ([]:List (S100)) 0 y2).bind fun bt4=>((crit_Rank.f k (⟨#[]⟩:ByteArray) ([]:List (S96)) ([]:List (S98)) y0 y1 ([]:List (S100)) 0 y2).bind fun t0=>(if bt4.2.2.2=0 then ((carrefourlaw11_f.f k 11 20).bind fun bt5=>(if (bt4.1==bt5.1&&(bt4.2.1==bt5.2))=true then (if (bt4.2.2.1.length:Int)=2 then (if 0<(bt4.2.2.1.length:Int) then (if (rd bt4.2.2.1 0)=0 then (if (t0.length:Int)=3 then (if 2<(t0.length:Int) then (some ((rd t0 2)==3)) else (none)) else (some false)) else (some false)) else (none)) else (some false)) else (some false))) else (some false)))))))))))=some r:=h
 clear h
 obtain ⟨y0,hy0⟩:∃ y_:List (S61),y_=(([(⟨(⟨#[97]⟩:ByteArray),([]:List ByteArray),0⟩:S61),(⟨(⟨#[98]⟩:ByteArray),([]:List ByteArray),0⟩:S61),(⟨(⟨#[99]⟩:ByteArray),([]:List ByteArray),0⟩:S61),(⟨(⟨#[100]⟩:ByteArray),([]:List ByteArray),0⟩:S61)]:List (S61))):=⟨_,rfl⟩
 replace H:((some (([(⟨(([(⟨false,(([(⟨#[97]⟩:ByteArray),(⟨#[98]⟩:ByteArray)]:List ByteArray))⟩:S63),(⟨false,(([(⟨#[99]⟩:ByteArray)]:List ByteArray))⟩:S63)]:List (S63)))⟩:S33),(⟨(([(⟨false,(([(⟨#[100]⟩:ByteArray)]:List ByteArray))⟩:S63)]:List (S63)))⟩:S33)]:List (S33)):List (S33))).bind fun y1=>((carrefourlaw11_f.f k 1 4).bind fun bt0=>((carrefourlaw11_f.f k 1 5).bind fun bt1=>((carrefourlaw11_f.f k 2 5).bind fun bt2=>((carrefourlaw11_f.f k 1 10).bind fun bt3=>((some (([(⟨bt0.1,bt0.2⟩:S36),(⟨bt1.1,bt1.2⟩:S36),(⟨bt2.1,bt2.2⟩:S36),(⟨bt3.1,bt3.2⟩:S36)]:List (S36)):List (S36))).bind fun y2=>((crit_Sum.f k (⟨#[]⟩:ByteArray) ([]:List (S96)) ([]:List (S98)) y0 y1 ([]:List (S100)) 0 y2).bind fun bt4=>((crit_Rank.f k (⟨#[]⟩:ByteArray) ([]:List (S96)) ([]:List (S98)) y0 y1 ([]:List (S100)) 0 y2).bind fun t0=>(if bt4.2.2.2=0 then ((carrefourlaw11_f.f k 11 20).bind fun bt5=>(if (bt4.1==bt5.1&&(bt4.2.1==bt5.2))=true then (if (bt4.2.2.1.length:Int)=2 then (if 0<(bt4.2.2.1.length:Int) then (if (rd bt4.2.2.1 0)=0 then (if (t0.length:Int)=3 then (if 2<(t0.length:Int) then (some ((rd t0 2)==3)) else (none)) else (some false)) else (some false)) else (none)) else (some false)) else (some false))) else (some false))))))))))=some r:=by first|(rw [hy0];with_reducible exact H)|(have H0:=(Option.bind_some _ _).symm.trans H;rw [hy0];with_reducible exact H0)|(have H0:=(Option.bind_some _ _).symm.trans H;with_reducible exact H0)|with_reducible exact H|(rw [hy0];exact H)|exact H
 have Ny0:=am hy0
 clear hy0
 obtain ⟨y3,hy1⟩:∃ y_:List ByteArray,y_=(([(⟨#[97]⟩:ByteArray),(⟨#[98]⟩:ByteArray)]:List ByteArray)):=⟨_,rfl⟩
 replace H:((some (([(⟨(([(⟨false,y3⟩:S63),(⟨false,(([(⟨#[99]⟩:ByteArray)]:List ByteArray))⟩:S63)]:List (S63)))⟩:S33),(⟨(([(⟨false,(([(⟨#[100]⟩:ByteArray)]:List ByteArray))⟩:S63)]:List (S63)))⟩:S33)]:List (S33)):List (S33))).bind fun y1=>((carrefourlaw11_f.f k 1 4).bind fun bt0=>((carrefourlaw11_f.f k 1 5).bind fun bt1=>((carrefourlaw11_f.f k 2 5).bind fun bt2=>((carrefourlaw11_f.f k 1 10).bind fun bt3=>((some (([(⟨bt0.1,bt0.2⟩:S36),(⟨bt1.1,bt1.2⟩:S36),(⟨bt2.1,bt2.2⟩:S36),(⟨bt3.1,bt3.2⟩:S36)]:List (S36)):List (S36))).bind fun y2=>((crit_Sum.f k (⟨#[]⟩:ByteArray) ([]:List (S96)) ([]:List (S98)) y0 y1 ([]:List (S100)) 0 y2).bind fun bt4=>((crit_Rank.f k (⟨#[]⟩:ByteArray) ([]:List (S96)) ([]:List (S98)) y0 y1 ([]:List (S100)) 0 y2).bind fun t0=>(if bt4.2.2.2=0 then ((carrefourlaw11_f.f k 11 20).bind fun bt5=>(if (bt4.1==bt5.1&&(bt4.2.1==bt5.2))=true then (if (bt4.2.2.1.length:Int)=2 then (if 0<(bt4.2.2.1.length:Int) then (if (rd bt4.2.2.1 0)=0 then (if (t0.length:Int)=3 then (if 2<(t0.length:Int) then (some ((rd t0 2)==3)) else (none)) else (some false)) else (some false)) else (none)) else (some false)) else (some false))) else (some false))))))))))=some r:=by first|(rw [hy1];with_reducible exact H)|(have H0:=(Option.bind_some _ _).symm.trans H;rw [hy1];with_reducible exact H0)|(have H0:=(Option.bind_some _ _).symm.trans H;with_reducible exact H0)|with_reducible exact H|(rw [hy1];exact H)|exact H
 have Ny1:=am hy1
 clear hy1
 obtain ⟨y4,hy2⟩:∃ y_:List ByteArray,y_=(([(⟨#[99]⟩:ByteArray)]:List ByteArray)):=⟨_,rfl⟩
 replace H:((some (([(⟨(([(⟨false,y3⟩:S63),(⟨false,y4⟩:S63)]:List (S63)))⟩:S33),(⟨(([(⟨false,(([(⟨#[100]⟩:ByteArray)]:List ByteArray))⟩:S63)]:List (S63)))⟩:S33)]:List (S33)):List (S33))).bind fun y1=>((carrefourlaw11_f.f k 1 4).bind fun bt0=>((carrefourlaw11_f.f k 1 5).bind fun bt1=>((carrefourlaw11_f.f k 2 5).bind fun bt2=>((carrefourlaw11_f.f k 1 10).bind fun bt3=>((some (([(⟨bt0.1,bt0.2⟩:S36),(⟨bt1.1,bt1.2⟩:S36),(⟨bt2.1,bt2.2⟩:S36),(⟨bt3.1,bt3.2⟩:S36)]:List (S36)):List (S36))).bind fun y2=>((crit_Sum.f k (⟨#[]⟩:ByteArray) ([]:List (S96)) ([]:List (S98)) y0 y1 ([]:List (S100)) 0 y2).bind fun bt4=>((crit_Rank.f k (⟨#[]⟩:ByteArray) ([]:List (S96)) ([]:List (S98)) y0 y1 ([]:List (S100)) 0 y2).bind fun t0=>(if bt4.2.2.2=0 then ((carrefourlaw11_f.f k 11 20).bind fun bt5=>(if (bt4.1==bt5.1&&(bt4.2.1==bt5.2))=true then (if (bt4.2.2.1.length:Int)=2 then (if 0<(bt4.2.2.1.length:Int) then (if (rd bt4.2.2.1 0)=0 then (if (t0.length:Int)=3 then (if 2<(t0.length:Int) then (some ((rd t0 2)==3)) else (none)) else (some false)) else (some false)) else (none)) else (some false)) else (some false))) else (some false))))))))))=some r:=by first|(rw [hy2];with_reducible exact H)|(have H0:=(Option.bind_some _ _).symm.trans H;rw [hy2];with_reducible exact H0)|(have H0:=(Option.bind_some _ _).symm.trans H;with_reducible exact H0)|with_reducible exact H|(rw [hy2];exact H)|exact H
 have Ny2:=am hy2
 clear hy2
 obtain ⟨y5,hy3⟩:∃ y_:List (S63),y_=(([(⟨false,y3⟩:S63),(⟨false,y4⟩:S63)]:List (S63))):=⟨_,rfl⟩
 replace H:((some (([(⟨y5⟩:S33),(⟨(([(⟨false,(([(⟨#[100]⟩:ByteArray)]:List ByteArray))⟩:S63)]:List (S63)))⟩:S33)]:List (S33)):List (S33))).bind fun y1=>((carrefourlaw11_f.f k 1 4).bind fun bt0=>((carrefourlaw11_f.f k 1 5).bind fun bt1=>((carrefourlaw11_f.f k 2 5).bind fun bt2=>((carrefourlaw11_f.f k 1 10).bind fun bt3=>((some (([(⟨bt0.1,bt0.2⟩:S36),(⟨bt1.1,bt1.2⟩:S36),(⟨bt2.1,bt2.2⟩:S36),(⟨bt3.1,bt3.2⟩:S36)]:List (S36)):List (S36))).bind fun y2=>((crit_Sum.f k (⟨#[]⟩:ByteArray) ([]:List (S96)) ([]:List (S98)) y0 y1 ([]:List (S100)) 0 y2).bind fun bt4=>((crit_Rank.f k (⟨#[]⟩:ByteArray) ([]:List (S96)) ([]:List (S98)) y0 y1 ([]:List (S100)) 0 y2).bind fun t0=>(if bt4.2.2.2=0 then ((carrefourlaw11_f.f k 11 20).bind fun bt5=>(if (bt4.1==bt5.1&&(bt4.2.1==bt5.2))=true then (if (bt4.2.2.1.length:Int)=2 then (if 0<(bt4.2.2.1.length:Int) then (if (rd bt4.2.2.1 0)=0 then (if (t0.length:Int)=3 then (if 2<(t0.length:Int) then (some ((rd t0 2)==3)) else (none)) else (some false)) else (some false)) else (none)) else (some false)) else (some false))) else (some false))))))))))=some r:=by first|(rw [hy3];with_reducible exact H)|(have H0:=(Option.bind_some _ _).symm.trans H;rw [hy3];with_reducible exact H0)|(have H0:=(Option.bind_some _ _).symm.trans H;with_reducible exact H0)|with_reducible exact H|(rw [hy3];exact H)|exact H
 have Ny3:=am hy3
 clear hy3
 obtain ⟨y6,hy4⟩:∃ y_:List ByteArray,y_=(([(⟨#[100]⟩:ByteArray)]:List ByteArray)):=⟨_,rfl⟩
 replace H:((some (([(⟨y5⟩:S33),(⟨(([(⟨false,y6⟩:S63)]:List (S63)))⟩:S33)]:List (S33)):List (S33))).bind fun y1=>((carrefourlaw11_f.f k 1 4).bind fun bt0=>((carrefourlaw11_f.f k 1 5).bind fun bt1=>((carrefourlaw11_f.f k 2 5).bind fun bt2=>((carrefourlaw11_f.f k 1 10).bind fun bt3=>((some (([(⟨bt0.1,bt0.2⟩:S36),(⟨bt1.1,bt1.2⟩:S36),(⟨bt2.1,bt2.2⟩:S36),(⟨bt3.1,bt3.2⟩:S36)]:List (S36)):List (S36))).bind fun y2=>((crit_Sum.f k (⟨#[]⟩:ByteArray) ([]:List (S96)) ([]:List (S98)) y0 y1 ([]:List (S100)) 0 y2).bind fun bt4=>((crit_Rank.f k (⟨#[]⟩:ByteArray) ([]:List (S96)) ([]:List (S98)) y0 y1 ([]:List (S100)) 0 y2).bind fun t0=>(if bt4.2.2.2=0 then ((carrefourlaw11_f.f k 11 20).bind fun bt5=>(if (bt4.1==bt5.1&&(bt4.2.1==bt5.2))=true then (if (bt4.2.2.1.length:Int)=2 then (if 0<(bt4.2.2.1.length:Int) then (if (rd bt4.2.2.1 0)=0 then (if (t0.length:Int)=3 then (if 2<(t0.length:Int) then (some ((rd t0 2)==3)) else (none)) else (some false)) else (some false)) else (none)) else (some false)) else (some false))) else (some false))))))))))=some r:=by first|(rw [hy4];with_reducible exact H)|(have H0:=(Option.bind_some _ _).symm.trans H;rw [hy4];with_reducible exact H0)|(have H0:=(Option.bind_some _ _).symm.trans H;with_reducible exact H0)|with_reducible exact H|(rw [hy4];exact H)|exact H
 have Ny4:=am hy4
 clear hy4
 obtain ⟨y7,hy5⟩:∃ y_:List (S63),y_=(([(⟨false,y6⟩:S63)]:List (S63))):=⟨_,rfl⟩
 replace H:((some (([(⟨y5⟩:S33),(⟨y7⟩:S33)]:List (S33)):List (S33))).bind fun y1=>((carrefourlaw11_f.f k 1 4).bind fun bt0=>((carrefourlaw11_f.f k 1 5).bind fun bt1=>((carrefourlaw11_f.f k 2 5).bind fun bt2=>((carrefourlaw11_f.f k 1 10).bind fun bt3=>((some (([(⟨bt0.1,bt0.2⟩:S36),(⟨bt1.1,bt1.2⟩:S36),(⟨bt2.1,bt2.2⟩:S36),(⟨bt3.1,bt3.2⟩:S36)]:List (S36)):List (S36))).bind fun y2=>((crit_Sum.f k (⟨#[]⟩:ByteArray) ([]:List (S96)) ([]:List (S98)) y0 y1 ([]:List (S100)) 0 y2).bind fun bt4=>((crit_Rank.f k (⟨#[]⟩:ByteArray) ([]:List (S96)) ([]:List (S98)) y0 y1 ([]:List (S100)) 0 y2).bind fun t0=>(if bt4.2.2.2=0 then ((carrefourlaw11_f.f k 11 20).bind fun bt5=>(if (bt4.1==bt5.1&&(bt4.2.1==bt5.2))=true then (if (bt4.2.2.1.length:Int)=2 then (if 0<(bt4.2.2.1.length:Int) then (if (rd bt4.2.2.1 0)=0 then (if (t0.length:Int)=3 then (if 2<(t0.length:Int) then (some ((rd t0 2)==3)) else (none)) else (some false)) else (some false)) else (none)) else (some false)) else (some false))) else (some false))))))))))=some r:=by first|(rw [hy5];with_reducible exact H)|(have H0:=(Option.bind_some _ _).symm.trans H;rw [hy5];with_reducible exact H0)|(have H0:=(Option.bind_some _ _).symm.trans H;with_reducible exact H0)|with_reducible exact H|(rw [hy5];exact H)|exact H
 have Ny5:=am hy5
 clear hy5
 obtain ⟨y1,hy6⟩:∃ y_:List (S33),y_=(([(⟨y5⟩:S33),(⟨y7⟩:S33)]:List (S33))):=⟨_,rfl⟩
 replace H:((carrefourlaw11_f.f k 1 4).bind fun bt0=>((carrefourlaw11_f.f k 1 5).bind fun bt1=>((carrefourlaw11_f.f k 2 5).bind fun bt2=>((carrefourlaw11_f.f k 1 10).bind fun bt3=>((some (([(⟨bt0.1,bt0.2⟩:S36),(⟨bt1.1,bt1.2⟩:S36),(⟨bt2.1,bt2.2⟩:S36),(⟨bt3.1,bt3.2⟩:S36)]:List (S36)):List (S36))).bind fun y2=>((crit_Sum.f k (⟨#[]⟩:ByteArray) ([]:List (S96)) ([]:List (S98)) y0 y1 ([]:List (S100)) 0 y2).bind fun bt4=>((crit_Rank.f k (⟨#[]⟩:ByteArray) ([]:List (S96)) ([]:List (S98)) y0 y1 ([]:List (S100)) 0 y2).bind fun t0=>(if bt4.2.2.2=0 then ((carrefourlaw11_f.f k 11 20).bind fun bt5=>(if (bt4.1==bt5.1&&(bt4.2.1==bt5.2))=true then (if (bt4.2.2.1.length:Int)=2 then (if 0<(bt4.2.2.1.length:Int) then (if (rd bt4.2.2.1 0)=0 then (if (t0.length:Int)=3 then (if 2<(t0.length:Int) then (some ((rd t0 2)==3)) else (none)) else (some false)) else (some false)) else (none)) else (some false)) else (some false))) else (some false)))))))))=some r:=by first|(rw [hy6];with_reducible exact H)|(have H0:=(Option.bind_some _ _).symm.trans H;rw [hy6];with_reducible exact H0)|(have H0:=(Option.bind_some _ _).symm.trans H;with_reducible exact H0)|with_reducible exact H|(rw [hy6];exact H)|exact H
 have Ny6:=am hy6
 clear hy6
 replace H:=bi_ H;obtain ⟨⟨t1,t2⟩,A1,H⟩:=H
 (try dsimp only at H)
 replace H:=bi_ H;obtain ⟨⟨t3,t4⟩,A2,H⟩:=H
 (try dsimp only at H)
 replace H:=bi_ H;obtain ⟨⟨t5,t6⟩,A3,H⟩:=H
 (try dsimp only at H)
 replace H:=bi_ H;obtain ⟨⟨t7,t8⟩,A4,H⟩:=H
 (try dsimp only at H)
 obtain ⟨y2,hy7⟩:∃ y_:List (S36),y_=(([(⟨t1,t2⟩:S36),(⟨t3,t4⟩:S36),(⟨t5,t6⟩:S36),(⟨t7,t8⟩:S36)]:List (S36))):=⟨_,rfl⟩
 replace H:((crit_Sum.f k (⟨#[]⟩:ByteArray) ([]:List (S96)) ([]:List (S98)) y0 y1 ([]:List (S100)) 0 y2).bind fun bt4=>((crit_Rank.f k (⟨#[]⟩:ByteArray) ([]:List (S96)) ([]:List (S98)) y0 y1 ([]:List (S100)) 0 y2).bind fun t0=>(if bt4.2.2.2=0 then ((carrefourlaw11_f.f k 11 20).bind fun bt5=>(if (bt4.1==bt5.1&&(bt4.2.1==bt5.2))=true then (if (bt4.2.2.1.length:Int)=2 then (if 0<(bt4.2.2.1.length:Int) then (if (rd bt4.2.2.1 0)=0 then (if (t0.length:Int)=3 then (if 2<(t0.length:Int) then (some ((rd t0 2)==3)) else (none)) else (some false)) else (some false)) else (none)) else (some false)) else (some false))) else (some false))))=some r:=by first|(rw [hy7];with_reducible exact H)|(have H0:=(Option.bind_some _ _).symm.trans H;rw [hy7];with_reducible exact H0)|(have H0:=(Option.bind_some _ _).symm.trans H;with_reducible exact H0)|with_reducible exact H|(rw [hy7];exact H)|exact H
 have Ny7:=am hy7
 clear hy7
 replace H:=bi_ H;obtain ⟨⟨t9,t10,t11,t12⟩,A5,H⟩:=H
 (try dsimp only at H)
 replace H:=bi_ H;obtain ⟨t0,A6,H⟩:=H
 (try dsimp only at H)
 go_enter Tryd.func6,Tryd.ntmps6
 try go_wp2_with (first|((with_reducible refine gate_dst (N:=10) rfl ?_);(try (refine gate_guard (by rfl) ?_;dsimp only));refine Kd.N_lit k61 _ 61 ?hg (N':=10) ?hd (xs:=([(⟨(⟨#[97]⟩:ByteArray),([]:List ByteArray),0⟩:S61),(⟨(⟨#[98]⟩:ByteArray),([]:List ByteArray),0⟩:S61),(⟨(⟨#[99]⟩:ByteArray),([]:List ByteArray),0⟩:S61),(⟨(⟨#[100]⟩:ByteArray),([]:List ByteArray),0⟩:S61)]:List (S61))) (inner:=[.string (⟨#[97]⟩:ByteArray),.slice none 0 0,.int .i64 0,.string (⟨#[98]⟩:ByteArray),.slice none 0 0,.int .i64 0,.string (⟨#[99]⟩:ByteArray),.slice none 0 0,.int .i64 0,.string (⟨#[100]⟩:ByteArray),.slice none 0 0,.int .i64 0]) (ok:=(fun _=>True)) (okp:=(fun _=>True)) ?hr ?hp (fun _ hk=>hk) ((show ∀ k_,w.heap.size≤k_→(fun _=>True) k_ from fun k_ hk=>trivial) _ (Nat.le_refl _)) (Below.refl _ _) (Nat.le_refl _) (by simp) ?_;(case hd=>rfl);(case hg=>rfl);(case hr=>first|(go_simp;done)|(go_simp;rfl));(case hp=>exact (Reps.c3 (show Kd.FK k61 _ _ (⟨(⟨#[97]⟩:ByteArray),([]:List ByteArray),0⟩:S61) [.string (⟨#[97]⟩:ByteArray),.slice none 0 0,.int .i64 0] from (k61_mkF _ _ (⟨(⟨#[97]⟩:ByteArray),([]:List ByteArray),0⟩:S61) (Nat.le_refl _) (Kd.F_nil _ _ _))) (Reps.c3 (show Kd.FK k61 _ _ (⟨(⟨#[98]⟩:ByteArray),([]:List ByteArray),0⟩:S61) [.string (⟨#[98]⟩:ByteArray),.slice none 0 0,.int .i64 0] from (k61_mkF _ _ (⟨(⟨#[98]⟩:ByteArray),([]:List ByteArray),0⟩:S61) (Nat.le_refl _) (Kd.F_nil _ _ _))) (Reps.c3 (show Kd.FK k61 _ _ (⟨(⟨#[99]⟩:ByteArray),([]:List ByteArray),0⟩:S61) [.string (⟨#[99]⟩:ByteArray),.slice none 0 0,.int .i64 0] from (k61_mkF _ _ (⟨(⟨#[99]⟩:ByteArray),([]:List ByteArray),0⟩:S61) (Nat.le_refl _) (Kd.F_nil _ _ _))) (Reps.c3 (show Kd.FK k61 _ _ (⟨(⟨#[100]⟩:ByteArray),([]:List ByteArray),0⟩:S61) [.string (⟨#[100]⟩:ByteArray),.slice none 0 0,.int .i64 0] from (k61_mkF _ _ (⟨(⟨#[100]⟩:ByteArray),([]:List ByteArray),0⟩:S61) (Nat.le_refl _) (Kd.F_nil _ _ _))) (Reps.none _ _))))));intro v0 w0 ho1 hb hg_ hnew_;clear hg_ hnew_;(first|rw [← Ny0.out] at ho1|(simp only [Int.reduceToNat] at ho1;rw [← Ny0.out] at ho1));have HO0:=am (Kd.N_lower ho1 (below_size (bf HB)));replace HB:=bs HB hb;clear hb ho1)|((with_reducible refine gate_dst (N:=11) rfl ?_);(try (refine gate_guard (by rfl) ?_;dsimp only));refine Kd.R_lit Kd.string _ 9 ?hg (N:=11) ?hd (xs:=([(⟨#[97]⟩:ByteArray),(⟨#[98]⟩:ByteArray)]:List ByteArray)) (inner:=[.string (⟨#[97]⟩:ByteArray),.string (⟨#[98]⟩:ByteArray)]) (ok:=fun _=>True) (okp:=fun _=>True) ?hr ?hp (fun _ hk=>hk) trivial (Below.refl _ _) (Nat.le_refl _) (by simp) ?_;(case hd=>rfl);(case hg=>rfl);(case hr=>first|(go_simp;done)|(go_simp;rfl));(case hp=>exact (Reps.one (show Kd.M Kd.string _ _ _ (⟨#[97]⟩:ByteArray) [.string (⟨#[97]⟩:ByteArray)] from rfl) (Reps.one (show Kd.M Kd.string _ _ _ (⟨#[98]⟩:ByteArray) [.string (⟨#[98]⟩:ByteArray)] from rfl) (Reps.none _ _))));intro v1 w1 ho2 hb hg_ hnew_;clear hg_ hnew_;(first|rw [← Ny1.out] at ho2|(simp only [Int.reduceToNat] at ho2;rw [← Ny1.out] at ho2));have HO1:=am (Kd.R_lower ho2 (below_size (bf HB)));replace HO0:=am (Kd.N_elder' (Nt_ HO0.out) (Kd.R_base ho2) hb);replace HB:=bs HB hb;clear hb ho2;obtain ⟨Ao0,co0,eo0⟩:=Kd.R_slice HO1.out;subst eo0)|((with_reducible refine gate_dst (N:=13) rfl ?_);(try (refine gate_guard (by rfl) ?_;dsimp only));refine Kd.R_lit Kd.string _ 9 ?hg (N:=13) ?hd (xs:=([(⟨#[99]⟩:ByteArray)]:List ByteArray)) (inner:=[.string (⟨#[99]⟩:ByteArray)]) (ok:=fun _=>True) (okp:=fun _=>True) ?hr ?hp (fun _ hk=>hk) trivial (Below.refl _ _) (Nat.le_refl _) (by simp) ?_;(case hd=>rfl);(case hg=>rfl);(case hr=>first|(go_simp;done)|(go_simp;rfl));(case hp=>exact (Reps.one (show Kd.M Kd.string _ _ _ (⟨#[99]⟩:ByteArray) [.string (⟨#[99]⟩:ByteArray)] from rfl) (Reps.none _ _)));intro v2 w2 ho3 hb hg_ hnew_;clear hg_ hnew_;(first|rw [← Ny2.out] at ho3|(simp only [Int.reduceToNat] at ho3;rw [← Ny2.out] at ho3));have HO2:=am (Kd.R_lower (Kd.R_new' ho3 (rl HO1)) (below_size (bf HB)));replace HO0:=am (Kd.N_elder' (Nt_ HO0.out) (Kd.R_base ho3) hb);replace HO1:=re_ HO1 (Kd.R_base ho3) hb;replace HB:=bs HB hb;clear hb ho3;obtain ⟨Ao1,co1,eo1⟩:=Kd.R_slice HO2.out;subst eo1)|((with_reducible refine gate_dst (N:=15) rfl ?_);(try (refine gate_guard (by rfl) ?_;dsimp only));refine Kd.N_lit k63 _ 63 ?hg (N':=15) ?hd (xs:=([(⟨false,y3⟩:S63),(⟨false,y4⟩:S63)]:List (S63))) (inner:=[.bool false,.slice Ao0 y3.length co0,.bool false,.slice Ao1 y4.length co1]) (ok:=(fun k_=>some k_≠(v0:Value).ownBlock)) (okp:=(fun k_=>some k_≠(v0:Value).ownBlock)) ?hr ?hp (fun _ hk=>hk) ((show ∀ k_,w2.heap.size≤k_→(fun k_=>some k_≠(v0:Value).ownBlock) k_ from fun k_ hk=>Kd.fresh' (Kd.N_lt (Nt_ HO0.out)) k_ hk) _ (Nat.le_refl _)) (Below.refl _ _) (Nat.le_refl _) (by simp) ?_;(case hd=>rfl);(case hg=>rfl);(case hr=>first|(go_simp;done)|(go_simp;rfl));(case hp=>exact (Reps.c2 (show Kd.FK k63 _ _ (⟨false,y3⟩:S63) [.bool false,.slice Ao0 y3.length co0] from (k63_mkF _ _ (⟨false,y3⟩:S63) (Kd.R_reads' (Kd.R_mono (ok':=(fun k_=>some k_≠(v0:Value).ownBlock)) (Kd.R_apart' (HO1.out) (Kd.N_typed HO0.out) (by decide)) (fun k_ hk=>hk.2))).2.1 (Kd.R_F (Kd.R_mono (ok':=(fun k_=>some k_≠(v0:Value).ownBlock)) (Kd.R_apart' (HO1.out) (Kd.N_typed HO0.out) (by decide)) (fun k_ hk=>hk.2))))) (Reps.c2 (show Kd.FK k63 _ _ (⟨false,y4⟩:S63) [.bool false,.slice Ao1 y4.length co1] from (k63_mkF _ _ (⟨false,y4⟩:S63) (Kd.R_reads' (Kd.R_mono (ok':=(fun k_=>some k_≠(v0:Value).ownBlock)) (Kd.R_apart' (HO2.out) (Kd.N_typed HO0.out) (by decide)) (fun k_ hk=>hk.2))).2.1 (Kd.R_F (Kd.R_mono (ok':=(fun k_=>some k_≠(v0:Value).ownBlock)) (Kd.R_apart' (HO2.out) (Kd.N_typed HO0.out) (by decide)) (fun k_ hk=>hk.2))))) (Reps.none _ _))));intro v3 w3 ho4 hb hg_ hnew_;clear hg_ hnew_;(first|rw [← Ny3.out] at ho4|(simp only [Int.reduceToNat] at ho4;rw [← Ny3.out] at ho4));have n0:=am (Kd.N_elder' (Nt_ HO0.out) (Kd.N_base ho4) hb);have n1:=am (Kd.N_lower ho4 (below_size (bf HB)));have n2:=bs HB hb;clear HO0;clear HB;clear HO1;clear HO2;have HO0:=n0;have HO3:=n1;have HB:=n2;clear n0 n1 n2;clear hb ho4;obtain ⟨Ao2,co2,eo2⟩:=Kd.N_slice HO3.out;subst eo2)|((with_reducible refine gate_dst (N:=17) rfl ?_);(try (refine gate_guard (by rfl) ?_;dsimp only));refine Kd.R_lit Kd.string _ 9 ?hg (N:=17) ?hd (xs:=([(⟨#[100]⟩:ByteArray)]:List ByteArray)) (inner:=[.string (⟨#[100]⟩:ByteArray)]) (ok:=fun _=>True) (okp:=fun _=>True) ?hr ?hp (fun _ hk=>hk) trivial (Below.refl _ _) (Nat.le_refl _) (by simp) ?_;(case hd=>rfl);(case hg=>rfl);(case hr=>first|(go_simp;done)|(go_simp;rfl));(case hp=>exact (Reps.one (show Kd.M Kd.string _ _ _ (⟨#[100]⟩:ByteArray) [.string (⟨#[100]⟩:ByteArray)] from rfl) (Reps.none _ _)));intro v4 w4 ho5 hb hg_ hnew_;clear hg_ hnew_;(first|rw [← Ny4.out] at ho5|(simp only [Int.reduceToNat] at ho5;rw [← Ny4.out] at ho5));have HO4:=am (Kd.R_lower ho5 (below_size (bf HB)));replace HO0:=am (Kd.N_elder' (Nt_ HO0.out) (Kd.R_base ho5) hb);replace HO3:=am (Kd.N_elder' (Nt_ HO3.out) (Kd.R_base ho5) hb);replace HB:=bs HB hb;clear hb ho5;obtain ⟨Ao3,co3,eo3⟩:=Kd.R_slice HO4.out;subst eo3)|((with_reducible refine gate_dst (N:=19) rfl ?_);(try (refine gate_guard (by rfl) ?_;dsimp only));refine Kd.N_lit k63 _ 63 ?hg (N':=19) ?hd (xs:=([(⟨false,y6⟩:S63)]:List (S63))) (inner:=[.bool false,.slice Ao3 y6.length co3]) (ok:=(fun k_=>some k_≠(v0:Value).ownBlock∧some k_≠(.slice Ao2 y5.length co2:Value).ownBlock)) (okp:=(fun k_=>some k_≠(v0:Value).ownBlock∧some k_≠(.slice Ao2 y5.length co2:Value).ownBlock)) ?hr ?hp (fun _ hk=>hk) ((show ∀ k_,w4.heap.size≤k_→(fun k_=>some k_≠(v0:Value).ownBlock∧some k_≠(.slice Ao2 y5.length co2:Value).ownBlock) k_ from fun k_ hk=>⟨Kd.fresh' (Kd.N_lt (Nt_ HO0.out)) k_ hk,Kd.fresh' (Kd.N_lt (Nt_ HO3.out)) k_ hk⟩) _ (Nat.le_refl _)) (Below.refl _ _) (Nat.le_refl _) (by simp) ?_;(case hd=>rfl);(case hg=>rfl);(case hr=>first|(go_simp;done)|(go_simp;rfl));(case hp=>exact (Reps.c2 (show Kd.FK k63 _ _ (⟨false,y6⟩:S63) [.bool false,.slice Ao3 y6.length co3] from (k63_mkF _ _ (⟨false,y6⟩:S63) (Kd.R_reads' (Kd.R_mono (ok':=(fun k_=>some k_≠(v0:Value).ownBlock∧some k_≠(.slice Ao2 y5.length co2:Value).ownBlock)) (Kd.R_apart' (Kd.R_apart' (HO4.out) (Kd.N_typed HO0.out) (by decide)) (Kd.N_typed HO3.out) (by decide)) (fun k_ hk=>⟨hk.1.2,hk.2⟩))).2.1 (Kd.R_F (Kd.R_mono (ok':=(fun k_=>some k_≠(v0:Value).ownBlock∧some k_≠(.slice Ao2 y5.length co2:Value).ownBlock)) (Kd.R_apart' (Kd.R_apart' (HO4.out) (Kd.N_typed HO0.out) (by decide)) (Kd.N_typed HO3.out) (by decide)) (fun k_ hk=>⟨hk.1.2,hk.2⟩))))) (Reps.none _ _)));intro v5 w5 ho6 hb hg_ hnew_;clear hg_ hnew_;(first|rw [← Ny5.out] at ho6|(simp only [Int.reduceToNat] at ho6;rw [← Ny5.out] at ho6));have n0:=am (Kd.N_elder' (Nt_ HO0.out) (Kd.N_base ho6) hb);have n1:=am (Kd.N_elder' (Nt_ HO3.out) (Kd.N_base ho6) hb);have n2:=am (Kd.N_lower ho6 (below_size (bf HB)));have n3:=bs HB hb;clear HO0;clear HO3;clear HB;clear HO4;have HO0:=n0;have HO3:=n1;have HO5:=n2;have HB:=n3;clear n0 n1 n2 n3;clear hb ho6;obtain ⟨Ao4,co4,eo4⟩:=Kd.N_slice HO5.out;subst eo4)|((with_reducible refine gate_dst (N:=21) rfl ?_);(try (refine gate_guard (by rfl) ?_;dsimp only));refine Kd.N_lit k33 _ 33 ?hg (N':=21) ?hd (xs:=([(⟨y5⟩:S33),(⟨y7⟩:S33)]:List (S33))) (inner:=[.slice Ao2 y5.length co2,.slice Ao4 y7.length co4]) (ok:=(fun k_=>some k_≠(v0:Value).ownBlock)) (okp:=(fun k_=>some k_≠(v0:Value).ownBlock)) ?hr ?hp (fun _ hk=>hk) ((show ∀ k_,w5.heap.size≤k_→(fun k_=>some k_≠(v0:Value).ownBlock) k_ from fun k_ hk=>Kd.fresh' (Kd.N_lt (Nt_ HO0.out)) k_ hk) _ (Nat.le_refl _)) (Below.refl _ _) (Nat.le_refl _) (by simp) ?_;(case hd=>rfl);(case hg=>rfl);(case hr=>first|(go_simp;done)|(go_simp;rfl));(case hp=>exact (Reps.one (show Kd.FK k33 _ _ (⟨y5⟩:S33) [.slice Ao2 y5.length co2] from (k33_mkF _ _ (⟨y5⟩:S33) (Kd.N_reads' (Kd.N_mono (ok':=(fun k_=>some k_≠(v0:Value).ownBlock)) (HO3.out) (fun k_ hk=>hk.1.1))).2.1 (Kd.N_F (Kd.N_mono (ok':=(fun k_=>some k_≠(v0:Value).ownBlock)) (HO3.out) (fun k_ hk=>hk.1.1))))) (Reps.one (show Kd.FK k33 _ _ (⟨y7⟩:S33) [.slice Ao4 y7.length co4] from (k33_mkF _ _ (⟨y7⟩:S33) (Kd.N_reads' (Kd.N_mono (ok':=(fun k_=>some k_≠(v0:Value).ownBlock)) (HO5.out) (fun k_ hk=>hk.1))).2.1 (Kd.N_F (Kd.N_mono (ok':=(fun k_=>some k_≠(v0:Value).ownBlock)) (HO5.out) (fun k_ hk=>hk.1))))) (Reps.none _ _))));intro v6 w6 ho7 hb hg_ hnew_;clear hg_ hnew_;(first|rw [← Ny6.out] at ho7|(simp only [Int.reduceToNat] at ho7;rw [← Ny6.out] at ho7));have n0:=am (Kd.N_elder' (Nt_ HO0.out) (Kd.N_base ho7) hb);have n1:=am (Kd.N_lower ho7 (below_size (bf HB)));have n2:=bs HB hb;clear HO0;clear HB;clear HO3;clear HO5;have HO0:=n0;have HO6:=n1;have HB:=n2;clear n0 n1 n2;clear hb ho7;obtain ⟨Ao5,co5,eo5⟩:=Kd.N_slice HO6.out;subst eo5;obtain ⟨Ao6,co6,eo6⟩:=Kd.N_slice HO0.out;subst eo6)|((with_reducible refine gate_dst (N:=1) rfl ?_);(try (refine gate_guard (by rfl) ?_;dsimp only));refine box_event ?hg (N:=1) ?hd (cs:=#[.string (⟨#[]⟩:ByteArray),.slice none 0 0,.slice none 0 0,.slice none 0 0,.slice none 0 0,.slice none 0 0,.int .i64 0]) (t:=28) ?hr ?_;(case hd=>rfl);(case hg=>rfl);(case hr=>first|(go_simp;done)|(go_simp;rfl));intro gb0 hg w7 hbox hb;have BK0:=am (hbox);have GE0:=bz HB hg;replace HO0:=am (Kd.N_below (Kd.N_elderB (Nt_ HO0.out) gb0 (Nat.le_of_eq hg.symm)) hb);replace HO6:=am (Kd.N_below (Kd.N_elderB (Nt_ HO6.out) gb0 (Nat.le_of_eq hg.symm)) hb);replace HB:=bs HB hb;clear hb hg;have hcz0:=X.k7 BK0)|((with_reducible refine gc 13 rfl ?_);refine gm_ (some 23) rfl rfl Tryd.func13 (carrefourlaw11_f.calls _ _ _ _ _ _ A1.out) ag ?_;intro w8 hb;replace HO0:=am (Kd.N_below (Nt_ (Kd.N_mono (Kd.N_far (p:=⟨gb0,6,none⟩) (Kd.N_far (p:=⟨gb0,5,none⟩) (Kd.N_far (p:=⟨gb0,4,none⟩) (Kd.N_far (p:=⟨gb0,3,none⟩) (Kd.N_far (p:=⟨gb0,2,none⟩) (Kd.N_far (p:=⟨gb0,1,none⟩) (Kd.N_far (p:=⟨gb0,0,none⟩) (Kd.N_mono HO0.out (fun k_ hk=>(⟨hk,hk.2⟩:_∧k_≠gb0))) (fun _ hk=>hk.2) (.string (⟨#[]⟩:ByteArray))) (fun _ hk=>hk.2) (.slice none 0 0)) (fun _ hk=>hk.2) (.slice none 0 0)) (fun _ hk=>hk.2) (.slice Ao6 y0.length co6)) (fun _ hk=>hk.2) (.slice Ao5 y1.length co5)) (fun _ hk=>hk.2) (.slice none 0 0)) (fun _ hk=>hk.2) (.int .i64 0)) (fun _ h_=>h_.1))) hb);replace HO6:=am (Kd.N_below (Nt_ (Kd.N_mono (Kd.N_far (p:=⟨gb0,6,none⟩) (Kd.N_far (p:=⟨gb0,5,none⟩) (Kd.N_far (p:=⟨gb0,4,none⟩) (Kd.N_far (p:=⟨gb0,3,none⟩) (Kd.N_far (p:=⟨gb0,2,none⟩) (Kd.N_far (p:=⟨gb0,1,none⟩) (Kd.N_far (p:=⟨gb0,0,none⟩) (Kd.N_mono HO6.out (fun k_ hk=>(⟨hk,hk.2⟩:_∧k_≠gb0))) (fun _ hk=>hk.2) (.string (⟨#[]⟩:ByteArray))) (fun _ hk=>hk.2) (.slice none 0 0)) (fun _ hk=>hk.2) (.slice none 0 0)) (fun _ hk=>hk.2) (.slice Ao6 y0.length co6)) (fun _ hk=>hk.2) (.slice Ao5 y1.length co5)) (fun _ hk=>hk.2) (.slice none 0 0)) (fun _ hk=>hk.2) (.int .i64 0)) (fun _ h_=>h_.1))) hb);replace BK0:=bp_ #[.string (⟨#[]⟩:ByteArray),.slice none 0 0,.slice none 0 0,.slice Ao6 y0.length co6,.slice Ao5 y1.length co5,.slice none 0 0,.int .i64 0] BK0 hb;replace HB:=bs HB hb;(try clear hb))|((with_reducible refine gc 13 rfl ?_);refine gm_ (some 24) rfl rfl Tryd.func13 (carrefourlaw11_f.calls _ _ _ _ _ _ A2.out) ag ?_;intro w9 hb;replace HO0:=am (Kd.N_below (Nt_ HO0.out) hb);replace HO6:=am (Kd.N_below (Nt_ HO6.out) hb);replace BK0:=am (blk_below (g:=gb0) (o:=.cells #[.string (⟨#[]⟩:ByteArray),.slice none 0 0,.slice none 0 0,.slice Ao6 y0.length co6,.slice Ao5 y1.length co5,.slice none 0 0,.int .i64 0] 28 (0,0)) (bx BK0) hb);replace HB:=bs HB hb;(try clear hb))|((with_reducible refine gc 13 rfl ?_);refine gm_ (some 25) rfl rfl Tryd.func13 (carrefourlaw11_f.calls _ _ _ _ _ _ A3.out) ag ?_;intro w40 hb;replace HO0:=am (Kd.N_below (Nt_ HO0.out) hb);replace HO6:=am (Kd.N_below (Nt_ HO6.out) hb);replace BK0:=am (blk_below (g:=gb0) (o:=.cells #[.string (⟨#[]⟩:ByteArray),.slice none 0 0,.slice none 0 0,.slice Ao6 y0.length co6,.slice Ao5 y1.length co5,.slice none 0 0,.int .i64 0] 28 (0,0)) (bx BK0) hb);replace HB:=bs HB hb;(try clear hb))|((with_reducible refine gc 13 rfl ?_);refine gm_ (some 26) rfl rfl Tryd.func13 (carrefourlaw11_f.calls _ _ _ _ _ _ A4.out) ag ?_;intro w41 hb;replace HO0:=am (Kd.N_below (Nt_ HO0.out) hb);replace HO6:=am (Kd.N_below (Nt_ HO6.out) hb);replace BK0:=am (blk_below (g:=gb0) (o:=.cells #[.string (⟨#[]⟩:ByteArray),.slice none 0 0,.slice none 0 0,.slice Ao6 y0.length co6,.slice Ao5 y1.length co5,.slice none 0 0,.int .i64 0] 28 (0,0)) (bx BK0) hb);replace HB:=bs HB hb;(try clear hb))|((with_reducible refine gate_dst (N:=27) rfl ?_);(try (refine gate_guard (by rfl) ?_;dsimp only));refine Kd.R_lit k36 _ 36 ?hg (N:=27) ?hd (xs:=([(⟨t1,t2⟩:S36),(⟨t3,t4⟩:S36),(⟨t5,t6⟩:S36),(⟨t7,t8⟩:S36)]:List (S36))) (inner:=[.int .i64 t1,.int .i64 t2,.int .i64 t3,.int .i64 t4,.int .i64 t5,.int .i64 t6,.int .i64 t7,.int .i64 t8]) (ok:=fun _=>True) (okp:=fun _=>True) ?hr ?hp (fun _ hk=>hk) trivial (Below.refl _ _) (Nat.le_refl _) (by simp) ?_;(case hd=>rfl);(case hg=>rfl);(case hr=>first|(go_simp;done)|(go_simp;rfl));(case hp=>exact (Reps.c2 (show Kd.M k36 _ _ _ (⟨t1,t2⟩:S36) [.int .i64 t1,.int .i64 t2] from (k36_mkM _ _ _ (⟨t1,t2⟩:S36) )) (Reps.c2 (show Kd.M k36 _ _ _ (⟨t3,t4⟩:S36) [.int .i64 t3,.int .i64 t4] from (k36_mkM _ _ _ (⟨t3,t4⟩:S36) )) (Reps.c2 (show Kd.M k36 _ _ _ (⟨t5,t6⟩:S36) [.int .i64 t5,.int .i64 t6] from (k36_mkM _ _ _ (⟨t5,t6⟩:S36) )) (Reps.c2 (show Kd.M k36 _ _ _ (⟨t7,t8⟩:S36) [.int .i64 t7,.int .i64 t8] from (k36_mkM _ _ _ (⟨t7,t8⟩:S36) )) (Reps.none _ _))))));intro v7 w42 ho8 hb hg_ hnew_;clear hg_ hnew_;(first|rw [← Ny7.out] at ho8|(simp only [Int.reduceToNat] at ho8;rw [← Ny7.out] at ho8));have HO7:=am (Kd.R_lower ho8 (below_size (bf HB)));replace HO0:=am (Kd.N_elder' (Nt_ HO0.out) (Kd.R_base ho8) hb);replace HO6:=am (Kd.N_elder' (Nt_ HO6.out) (Kd.R_base ho8) hb);replace BK0:=am (blk_below (g:=gb0) (o:=.cells #[.string (⟨#[]⟩:ByteArray),.slice none 0 0,.slice none 0 0,.slice Ao6 y0.length co6,.slice Ao5 y1.length co5,.slice none 0 0,.int .i64 0] 28 (0,0)) (bx BK0) hb);replace HB:=bs HB hb;clear hb ho8;have hcz1:=X.k7 BK0;obtain ⟨Ao7,co7,eo7⟩:=Kd.R_slice HO7.out;subst eo7)|((with_reducible refine gate_callee (f:=7) rfl ?_);refine goesL_ (some 31) rfl rfl Tryd.func7 (by kernel_rfl) rfl #[.agg #[.string (⟨#[]⟩:ByteArray),.slice none 0 0,.slice none 0 0,.slice Ao6 y0.length co6,.slice Ao5 y1.length co5,.slice none 0 0,.int .i64 0],.slice Ao7 y2.length co7] rfl ag ?_;(refine (crit_Sum.calls _ (⟨#[]⟩:ByteArray) _ _ ([]:List (S96)) _ _ ([]:List (S98)) _ _ _ _ _ _ _ _ ([]:List (S100)) _ _ _ _ _ _ _ _ _ ?side1 ?side2 ?side3 ?side4 ?side5 ?side6 ?side7 ?side8 ?side9 ?side10 ?side11 ?side12 A5.out (tt GT)).mono ?_);(case side1=>exact Kd.C_nil _ _);(case side2=>exact Nat.le_refl _);(case side3=>exact Kd.C_nil _ _);(case side4=>exact Nat.le_refl _);(case side5=>repeat (first|exact (Kd.N_reads' HO0.out).2.2|(with_reducible refine Kd.C_alloc ?_ _)|(with_reducible refine Kd.C_drewN ?_ _)|(with_reducible refine Kd.C_drew ?_)));(case side6=>exact (Kd.N_reads' HO0.out).2.1);(case side7=>repeat (first|exact (Kd.N_reads' HO6.out).2.2|(with_reducible refine Kd.C_alloc ?_ _)|(with_reducible refine Kd.C_drewN ?_ _)|(with_reducible refine Kd.C_drew ?_)));(case side8=>exact (Kd.N_reads' HO6.out).2.1);(case side9=>exact Kd.C_nil _ _);(case side10=>exact Nat.le_refl _);(case side11=>exact rc HO7);(case side12=>exact (Kd.R_reads' HO7.out).2.1);rintro e w46 ⟨v8,rfl,ho0,hb⟩;refine ⟨_,rfl,?_⟩;have HO8:=am (Kd.R_lower ho0 (below_size (bf HB)));replace HO0:=am (Kd.N_elder' (Nt_ HO0.out) (Kd.R_base ho0) hb);replace HO6:=am (Kd.N_elder' (Nt_ HO6.out) (Kd.R_base ho0) hb);replace HO7:=rb HO7 hb;replace BK0:=am (blk_below (g:=gb0) (o:=.cells #[.string (⟨#[]⟩:ByteArray),.slice none 0 0,.slice none 0 0,.slice Ao6 y0.length co6,.slice Ao5 y1.length co5,.slice none 0 0,.int .i64 0] 28 (0,0)) (bx BK0) hb);replace HB:=bs HB hb;(try clear hb);(try clear ho0))|((with_reducible refine gate_dst (N:=3) rfl ?_);(try (refine gate_guard (by rfl) ?_;dsimp only));refine box_event ?hg (N:=3) ?hd (cs:=#[.int .i64 0,.int .i64 0,.slice none 0 0]) (t:=39) ?hr ?_;(case hd=>rfl);(case hg=>rfl);(case hr=>first|(go_simp;done)|(go_simp;rfl));intro gb1 hg w47 hbox hb;have BK1:=am (hbox);have GE1:=bz HB hg;have NB0:=am ((by rw [hg];exact Nat.ne_of_lt (blk_lt (g:=gb0) (o:=.cells #[.string (⟨#[]⟩:ByteArray),.slice none 0 0,.slice none 0 0,.slice Ao6 y0.length co6,.slice Ao5 y1.length co5,.slice none 0 0,.int .i64 0] 28 (0,0)) (bx BK0)):gb0≠gb1));have NB1:=am ((by rw [hg];exact Nat.ne_of_gt (blk_lt (g:=gb0) (o:=.cells #[.string (⟨#[]⟩:ByteArray),.slice none 0 0,.slice none 0 0,.slice Ao6 y0.length co6,.slice Ao5 y1.length co5,.slice none 0 0,.int .i64 0] 28 (0,0)) (bx BK0)):gb1≠gb0));replace HO0:=am (Kd.N_below (Kd.N_elderB (Nt_ HO0.out) gb1 (Nat.le_of_eq hg.symm)) hb);replace HO6:=am (Kd.N_below (Kd.N_elderB (Nt_ HO6.out) gb1 (Nat.le_of_eq hg.symm)) hb);replace HO7:=rb HO7 hb;replace HO8:=rb HO8 hb;replace BK0:=am (blk_below (g:=gb0) (o:=.cells #[.string (⟨#[]⟩:ByteArray),.slice none 0 0,.slice none 0 0,.slice Ao6 y0.length co6,.slice Ao5 y1.length co5,.slice none 0 0,.int .i64 0] 28 (0,0)) (bx BK0) hb);replace HB:=bs HB hb;clear hb hg;have hnb0:=nn NB1;have hcz2:=X.k3 BK1;obtain ⟨Ao8,co8,eo8⟩:=Kd.R_slice HO8.out;subst eo8;have hcz3:=X.k7 BK0)|((with_reducible refine gate_callee (f:=17) rfl ?_);refine goesL_ (some 36) rfl rfl Tryd.func17 (by kernel_rfl) rfl #[.agg #[.string (⟨#[]⟩:ByteArray),.slice none 0 0,.slice none 0 0,.slice Ao6 y0.length co6,.slice Ao5 y1.length co5,.slice none 0 0,.int .i64 0],.slice Ao7 y2.length co7] rfl ag ?_;(refine (crit_Rank.calls _ (⟨#[]⟩:ByteArray) _ _ ([]:List (S96)) _ _ ([]:List (S98)) _ _ _ _ _ _ _ _ ([]:List (S100)) _ _ _ _ _ _ ?side1 ?side2 ?side3 ?side4 ?side5 ?side6 ?side7 ?side8 ?side9 ?side10 ?side11 ?side12 A6.out (tt GT)).mono ?_);(case side1=>exact Kd.C_nil _ _);(case side2=>exact Nat.le_refl _);(case side3=>exact Kd.C_nil _ _);(case side4=>exact Nat.le_refl _);(case side5=>refine (Kd.N_reads' (e:=61) (base:=w.heap.size) (ok:=fun _=>True) (n:=y0.length) (c:=co6) ?_).2.2;exact (Nt_ (Kd.N_mono (Kd.N_far (p:=⟨gb1,2,none⟩) (Kd.N_far (p:=⟨gb1,1,none⟩) (Kd.N_far (p:=⟨gb1,0,none⟩) (Kd.N_mono HO0.out (fun k_ hk=>(⟨hk,hk.2⟩:_∧k_≠gb1))) (fun _ hk=>hk.2) (.int .i64 t9)) (fun _ hk=>hk.2) (.int .i64 t10)) (fun _ hk=>hk.2) (.slice Ao8 t11.length co8)) (fun _ _=>trivial))));(case side6=>exact (Kd.N_reads' HO0.out).2.1);(case side7=>refine (Kd.N_reads' (e:=33) (base:=w.heap.size) (ok:=fun k_=>((((some k_≠(.slice Ao6 y0.length co6:Value).ownBlock∧k_≠gb0)∧some k_≠(.slice Ao7 y2.length co7:Value).ownBlock)∧some k_≠(.slice Ao8 t11.length co8:Value).ownBlock)∧k_≠gb1)) (n:=y1.length) (c:=co5) ?_).2.2;exact (Nt_ (Kd.N_mono (Kd.N_far (p:=⟨gb1,2,none⟩) (Kd.N_far (p:=⟨gb1,1,none⟩) (Kd.N_far (p:=⟨gb1,0,none⟩) (Kd.N_mono HO6.out (fun k_ hk=>(⟨hk,hk.2⟩:_∧k_≠gb1))) (fun _ hk=>hk.2) (.int .i64 t9)) (fun _ hk=>hk.2) (.int .i64 t10)) (fun _ hk=>hk.2) (.slice Ao8 t11.length co8)) (fun _ h_=>h_.1))));(case side8=>exact (Kd.N_reads' HO6.out).2.1);(case side9=>exact Kd.C_nil _ _);(case side10=>exact Nat.le_refl _);(case side11=>refine (Kd.R_reads' (e:=36) (base:=w.heap.size) (ok:=fun k_=>True) (n:=y2.length) (c:=co7) ?_).2.2;exact (Rt_ (Kd.R_mono (Kd.R_far (p:=⟨gb1,2,none⟩) (Kd.R_far (p:=⟨gb1,1,none⟩) (Kd.R_far (p:=⟨gb1,0,none⟩) (Kd.R_types HO7.out BK1.out (by decide)) (fun _ hk=>hk.2) (.int .i64 t9)) (fun _ hk=>hk.2) (.int .i64 t10)) (fun _ hk=>hk.2) (.slice Ao8 t11.length co8)) (fun _ h_=>h_.1))));(case side12=>exact (Kd.R_reads' HO7.out).2.1);rintro e w52 ⟨v9,rfl,ho0,hb⟩;refine ⟨_,rfl,?_⟩;have HO9:=am (Kd.R_lower (Kd.R_new' ho0 (Kd.R_lt (Rt_ (Kd.R_mono (Kd.R_far (p:=⟨gb1,2,none⟩) (Kd.R_far (p:=⟨gb1,1,none⟩) (Kd.R_far (p:=⟨gb1,0,none⟩) (Kd.R_types HO8.out BK1.out (by decide)) (fun _ hk=>hk.2) (.int .i64 t9)) (fun _ hk=>hk.2) (.int .i64 t10)) (fun _ hk=>hk.2) (.slice Ao8 t11.length co8)) (fun _ h_=>h_.1))))) (below_size (bf HB)));replace HO0:=am (Kd.N_elder' (Nt_ (Kd.N_mono (Kd.N_far (p:=⟨gb1,2,none⟩) (Kd.N_far (p:=⟨gb1,1,none⟩) (Kd.N_far (p:=⟨gb1,0,none⟩) (Kd.N_mono HO0.out (fun k_ hk=>(⟨hk,hk.2⟩:_∧k_≠gb1))) (fun _ hk=>hk.2) (.int .i64 t9)) (fun _ hk=>hk.2) (.int .i64 t10)) (fun _ hk=>hk.2) (.slice Ao8 t11.length co8)) (fun _ h_=>h_.1))) (Kd.R_base ho0) hb);replace HO6:=am (Kd.N_elder' (Nt_ (Kd.N_mono (Kd.N_far (p:=⟨gb1,2,none⟩) (Kd.N_far (p:=⟨gb1,1,none⟩) (Kd.N_far (p:=⟨gb1,0,none⟩) (Kd.N_mono HO6.out (fun k_ hk=>(⟨hk,hk.2⟩:_∧k_≠gb1))) (fun _ hk=>hk.2) (.int .i64 t9)) (fun _ hk=>hk.2) (.int .i64 t10)) (fun _ hk=>hk.2) (.slice Ao8 t11.length co8)) (fun _ h_=>h_.1))) (Kd.R_base ho0) hb);replace HO7:=am (Kd.R_below (Rt_ (Kd.R_mono (Kd.R_far (p:=⟨gb1,2,none⟩) (Kd.R_far (p:=⟨gb1,1,none⟩) (Kd.R_far (p:=⟨gb1,0,none⟩) (Kd.R_types HO7.out BK1.out (by decide)) (fun _ hk=>hk.2) (.int .i64 t9)) (fun _ hk=>hk.2) (.int .i64 t10)) (fun _ hk=>hk.2) (.slice Ao8 t11.length co8)) (fun _ h_=>h_.1))) hb);replace HO8:=am (Kd.R_elder' (Rt_ (Kd.R_mono (Kd.R_far (p:=⟨gb1,2,none⟩) (Kd.R_far (p:=⟨gb1,1,none⟩) (Kd.R_far (p:=⟨gb1,0,none⟩) (Kd.R_types HO8.out BK1.out (by decide)) (fun _ hk=>hk.2) (.int .i64 t9)) (fun _ hk=>hk.2) (.int .i64 t10)) (fun _ hk=>hk.2) (.slice Ao8 t11.length co8)) (fun _ h_=>h_.1))) (Kd.R_base ho0) hb);replace BK0:=am (blk_below (g:=gb0) (o:=.cells #[.string (⟨#[]⟩:ByteArray),.slice none 0 0,.slice none 0 0,.slice Ao6 y0.length co6,.slice Ao5 y1.length co5,.slice none 0 0,.int .i64 0] 28 (0,0)) (bx BK0) hb);replace BK1:=bp_ #[.int .i64 t9,.int .i64 t10,.slice Ao8 t11.length co8] BK1 hb;replace HB:=bs HB hb;(try clear hb);(try clear ho0)))
 by_cases c7:t12=0;{
 rw [if_pos c7] at H
 have c0:(t12==0)=true:=beq_iff_eq.mpr c7
 have c1:(t12 != 0)=false:=bne_eq_false_iff_eq.mpr c7
 clear c7
 replace H:=bi_ H;obtain ⟨⟨t13,t14⟩,A8,H⟩:=H
 (try dsimp only at H)
 by_cases c9:(t9==t13&&(t10==t14))=true;{
 rw [if_pos c9] at H
 have c4:(t9==t13&&(t10==t14))=true:=c9
 (try (have c5:decide (t9=t13&&(t10==t14))=true:=by simpa using c9))
 (try (have c6:(t9==t13&&(t10==t14))=true:=by simpa using c9))
 clear c9
 by_cases c8:(t11.length:Int)=2;{
 rw [if_pos c8] at H
 have c15:((t11.length:Int)==2)=true:=beq_iff_eq.mpr c8
 have c16:((t11.length:Int) != 2)=false:=bne_eq_false_iff_eq.mpr c8
 clear c8
 by_cases c11:0<(t11.length:Int);{
 rw [if_pos c11] at H
 have c18:decide (0<(t11.length:Int))=true:=decide_eq_true c11
 have c19:decide (0<t11.length)=true:=decide_eq_true (by omega)
 clear c11
 by_cases c12:(rd t11 0)=0;{
 rw [if_pos c12] at H
 have c21:((rd t11 0)==0)=true:=beq_iff_eq.mpr c12
 have c22:((rd t11 0) != 0)=false:=bne_eq_false_iff_eq.mpr c12
 clear c12
 by_cases c13:(t0.length:Int)=3;{
 rw [if_pos c13] at H
 have c24:((t0.length:Int)==3)=true:=beq_iff_eq.mpr c13
 have c25:((t0.length:Int) != 3)=false:=bne_eq_false_iff_eq.mpr c13
 clear c13
 by_cases c14:2<(t0.length:Int);{
 rw [if_pos c14] at H
 have c27:decide (2<(t0.length:Int))=true:=decide_eq_true c14
 have c28:decide (2<t0.length)=true:=decide_eq_true (by omega)
 clear c14
 obtain rfl:=Option.some.inj H
 replace HO0:=am (Kd.N_drew HO0.out)
 replace HO6:=am (Kd.N_drew HO6.out)
 replace HO7:=am (Kd.R_drew HO7.out)
 replace HO8:=am (Kd.R_drew HO8.out)
 replace HO9:=am (Kd.R_drew HO9.out)
 replace BK0:=am (blk_drew BK0.out)
 replace BK1:=am (blk_drew BK1.out)
 replace HB:=am (below_drew1 HB.out)
 have p0:0≤(0:Int):=(by omega)
 have q0:0<(t11.length:Int):=od_
 obtain ⟨ad0,e0,hx0⟩:=Kd.at_int (Kd.R_reads' HO8.out).2.2 0 p0 q0
 cases e0
 have qi0:(0<t11.length)=True:=eq_true (by omega)
 (try rw [show ((0:Int)).toNat=0 from rfl] at hx0)
 (try rw [Addr.add_zero'] at hx0)
 replace p0:=eq_true p0
 replace q0:=eq_true q0
 have p1:0≤(2:Int):=(by omega)
 have q1:2<(t0.length:Int):=od_
 obtain ⟨Axo_,cxo_,exo_⟩:=Kd.R_slice HO9.out
 subst exo_
 obtain ⟨ad1,e1,hx1⟩:=Kd.at_int (Kd.R_reads' HO9.out).2.2 2 p1 q1
 cases e1
 (try simp only [show (2:Int).toNat=2 from rfl,Nat.reduceMul,Nat.reduceEqDiff,Go.Addr.add,↓reduceIte] at hx1)
 have qi1:(2<t0.length)=True:=eq_true (by omega)
 (try rw [show ((2:Int)).toNat=2 from rfl] at hx1)
 replace p1:=eq_true p1
 replace q1:=eq_true q1
 refine start_ (n:=33) (S:=fun w'=>c_ w' gb1 0 (.int .i64 t9)∧c_ w' gb1 1 (.int .i64 t10)∧c_ w' gb1 2 (.slice (some ad0) t11.length co8)∧w'.cell? ad0=some (.int .i64 (rd t11 0))∧w'.cell? ⟨ad1.block,ad1.off+2,none⟩=some (.int .i64 (rd t0 2))) (ds:=[]) (m_ 33 0) (by kernel_rfl) rfl rfl ⟨ct BK1 0,ct BK1 1,ct BK1 2,hx0,hx1⟩ (fun hHeld=>?_);refine with_tabW carrefourlaw11_awake.tab5 carrefourlaw11_awake.bits5 (fun HT_ HW_=>?_)
 generalize w52.drew=w53 at HO0 HO6 HO7 HO8 HO9 BK0 BK1 HB hx0 hx1 hHeld ⊢
 refine pu_ 0 (some 37) (m_ 33 1) rfl rfl (ao HT_) ?_
 refine pu_ 1 (some 38) (m_ 33 3) rfl rfl (ao HT_) ?_
 refine pu_ 2 (some 39) (m_ 33 7) rfl rfl (ao HT_) ?_
 refine pu_ 3 (some 40) (m_ 33 15) rfl rfl (ao HT_) ?_
 refine tk_ 4 (some 41) (m_ 33 31) rfl rfl (tw HT_ HW_) hHeld ?_
 refine o1_ 5 (some 42) (m_ 33 63) rfl rfl (oo HT_) (fun K hK=>?_)
 refine goes_ Tryd.func13 (by kernel_rfl) rfl #[.int .i64 11,.int .i64 20] (by rfl) rfl rfl ag ?_
 with_reducible refine (carrefourlaw11_f.calls _ _ _ _ _ _ A8.out).mono ?_
 rintro e w54 ⟨rfl,hb⟩
 have HS0:=(hb.cell (World.block_lt_of_cell? _ _ (hHeld.2.2.2.1))).trans (hHeld.2.2.2.1)
 have HS1:=(hb.cell (World.block_lt_of_cell? _ _ (hHeld.2.2.2.2))).trans (hHeld.2.2.2.2)
 refine ⟨_,rfl,?_⟩
 replace HO0:=am (Kd.N_below (Nt_ HO0.out) hb)
 replace HO6:=am (Kd.N_below (Nt_ HO6.out) hb)
 replace HO7:=rb HO7 hb
 replace HO8:=rb HO8 hb
 replace HO9:=rb HO9 hb
 replace BK0:=am (blk_below (g:=gb0) (o:=.cells #[.string (⟨#[]⟩:ByteArray),.slice none 0 0,.slice none 0 0,.slice Ao6 y0.length co6,.slice Ao5 y1.length co5,.slice none 0 0,.int .i64 0] 28 (0,0)) (bx BK0) hb)
 replace BK1:=bb BK1 hb
 replace HB:=bs HB hb
 (try clear hb)
 obtain ⟨Ao9,co9,eo9⟩:=Kd.R_slice HO9.out
 (first|subst eo9|(injection eo9 with f1_ f2_ f3_;have f4_:=f1_.symm;have f5_:=f3_.symm;clear f1_ f2_ f3_;subst f4_;subst f5_))
 refine hK.out _ _ ⟨ct BK1 0,ct BK1 1,ct BK1 2,HS0,HS1⟩ (fun hHeld=>?_)
 clear hK K
 refine nr_ (some 42) ?_
 refine pu_ 6 (some 43) (m_ 33 127) rfl rfl (ao HT_) ?_
 refine pu_ 7 (some 44) (m_ 33 255) rfl rfl (ao HT_) ?_
 refine pu_ 8 (some 45) (m_ 33 511) rfl rfl (ao HT_) ?_
 refine pu_ 9 (some 46) (m_ 33 1023) rfl rfl (ao HT_) ?_
 refine tk_ 10 (some 47) (m_ 33 2047) rfl rfl (tw HT_ HW_) hHeld ?_
 refine pu_ 11 (some 48) (m_ 33 4095) rfl rfl (ao HT_) ?_
 refine pu_ 12 (some 49) (m_ 33 8191) rfl rfl (ao HT_) ?_
 refine pu_ 13 (some 50) (m_ 33 16383) rfl rfl (ao HT_) ?_
 refine pu_ 14 (some 51) (m_ 33 32767) rfl rfl (ao HT_) ?_
 refine pu_ 15 (some 52) (m_ 33 65535) rfl rfl (ao HT_) ?_
 refine tk_ 16 (some 53) (m_ 33 131071) rfl rfl (tw HT_ HW_) hHeld ?_
 refine pu_ 17 (some 54) (m_ 33 262143) rfl rfl (ao HT_) ?_
 refine tk_ 18 (some 55) (m_ 33 524287) rfl rfl (tw HT_ HW_) hHeld ?_
 refine pu_ 19 (some 56) (m_ 33 1048575) rfl rfl (ao HT_) ?_
 refine pu_ 20 (some 57) (m_ 33 2097151) rfl rfl (ao HT_) ?_
 refine pu_ 21 (some 58) (m_ 33 4194303) rfl rfl (ao HT_) ?_
 refine pu_ 22 (some 59) (m_ 33 8388607) rfl rfl (ao HT_) ?_
 refine pu_ 23 (some 60) (m_ 33 16777215) rfl rfl (ao HT_) ?_
 refine pu_ 24 (some 61) (m_ 33 33554431) rfl rfl (ao HT_) ?_
 refine pu_ 25 (some 62) (m_ 33 67108863) rfl rfl (ao HT_) ?_
 refine pu_ 26 (some 63) (m_ 33 134217727) rfl rfl (ao HT_) ?_
 refine pu_ 27 (some 64) (m_ 33 268435455) rfl rfl (ao HT_) ?_
 refine pu_ 28 (some 65) (m_ 33 536870911) rfl rfl (ao HT_) ?_
 refine tk_ 29 (some 66) (m_ 33 1073741823) rfl rfl (tw HT_ HW_) hHeld ?_
 refine pu_ 30 (some 67) (m_ 33 2147483647) rfl rfl (ao HT_) ?_
 refine pu_ 31 (some 68) (m_ 33 4294967295) rfl rfl (ao HT_) ?_
 refine pu_ 32 (some 0) (m_ 33 8589934591) rfl rfl (ao HT_) ?_
 refine done_ (done_of HT_.out (by kernel_rfl)) ?_
 try go_wp2
 go_ret
 exact ⟨ae,bf HB⟩};{
 rw [if_neg c14] at H
 exact absurd H (by simp)}};{
 rw [if_neg c13] at H
 have c24:((t0.length:Int)==3)=false:=beq_eq_false_iff_ne.mpr c13
 have c25:((t0.length:Int) != 3)=true:=bne_iff_ne.mpr c13
 obtain rfl:=Option.some.inj H
 replace HO0:=am (Kd.N_drew HO0.out)
 replace HO6:=am (Kd.N_drew HO6.out)
 replace HO7:=am (Kd.R_drew HO7.out)
 replace HO8:=am (Kd.R_drew HO8.out)
 replace HO9:=am (Kd.R_drew HO9.out)
 replace BK0:=am (blk_drew BK0.out)
 replace BK1:=am (blk_drew BK1.out)
 replace HB:=am (below_drew1 HB.out)
 have p0:0≤(0:Int):=(by omega)
 have q0:0<(t11.length:Int):=od_
 obtain ⟨ad0,e0,hx0⟩:=Kd.at_int (Kd.R_reads' HO8.out).2.2 0 p0 q0
 cases e0
 have qi0:(0<t11.length)=True:=eq_true (by omega)
 (try rw [show ((0:Int)).toNat=0 from rfl] at hx0)
 (try rw [Addr.add_zero'] at hx0)
 replace p0:=eq_true p0
 replace q0:=eq_true q0
 refine start_ (n:=33) (S:=fun w'=>c_ w' gb1 0 (.int .i64 t9)∧c_ w' gb1 1 (.int .i64 t10)∧c_ w' gb1 2 (.slice (some ad0) t11.length co8)∧w'.cell? ad0=some (.int .i64 (rd t11 0))) (ds:=[]) (m_ 33 0) (by kernel_rfl) rfl rfl ⟨ct BK1 0,ct BK1 1,ct BK1 2,hx0⟩ (fun hHeld=>?_);refine with_tabW carrefourlaw11_awake.tab5 carrefourlaw11_awake.bits5 (fun HT_ HW_=>?_)
 generalize w52.drew=w94 at HO0 HO6 HO7 HO8 HO9 BK0 BK1 HB hx0 hHeld ⊢
 refine pu_ 0 (some 37) (m_ 33 1) rfl rfl (ao HT_) ?_
 refine pu_ 1 (some 38) (m_ 33 3) rfl rfl (ao HT_) ?_
 refine pu_ 2 (some 39) (m_ 33 7) rfl rfl (ao HT_) ?_
 refine pu_ 3 (some 40) (m_ 33 15) rfl rfl (ao HT_) ?_
 refine tk_ 4 (some 41) (m_ 33 31) rfl rfl (tw HT_ HW_) hHeld ?_
 refine o1_ 5 (some 42) (m_ 33 63) rfl rfl (oo HT_) (fun K hK=>?_)
 refine goes_ Tryd.func13 (by kernel_rfl) rfl #[.int .i64 11,.int .i64 20] (by rfl) rfl rfl ag ?_
 with_reducible refine (carrefourlaw11_f.calls _ _ _ _ _ _ A8.out).mono ?_
 rintro e w95 ⟨rfl,hb⟩
 have HS0:=(hb.cell (World.block_lt_of_cell? _ _ (hHeld.2.2.2))).trans (hHeld.2.2.2)
 refine ⟨_,rfl,?_⟩
 replace HO0:=am (Kd.N_below (Nt_ HO0.out) hb)
 replace HO6:=am (Kd.N_below (Nt_ HO6.out) hb)
 replace HO7:=rb HO7 hb
 replace HO8:=rb HO8 hb
 replace HO9:=rb HO9 hb
 replace BK0:=am (blk_below (g:=gb0) (o:=.cells #[.string (⟨#[]⟩:ByteArray),.slice none 0 0,.slice none 0 0,.slice Ao6 y0.length co6,.slice Ao5 y1.length co5,.slice none 0 0,.int .i64 0] 28 (0,0)) (bx BK0) hb)
 replace BK1:=bb BK1 hb
 replace HB:=bs HB hb
 (try clear hb)
 obtain ⟨Ao96,co96,eo96⟩:=Kd.R_slice HO9.out
 (first|subst eo96|(injection eo96 with f1_ f2_ f3_;have f4_:=f1_.symm;have f5_:=f3_.symm;clear f1_ f2_ f3_;subst f4_;subst f5_))
 refine hK.out _ _ ⟨ct BK1 0,ct BK1 1,ct BK1 2,HS0⟩ (fun hHeld=>?_)
 clear hK K
 refine nr_ (some 42) ?_
 refine pu_ 6 (some 43) (m_ 33 127) rfl rfl (ao HT_) ?_
 refine pu_ 7 (some 44) (m_ 33 255) rfl rfl (ao HT_) ?_
 refine pu_ 8 (some 45) (m_ 33 511) rfl rfl (ao HT_) ?_
 refine pu_ 9 (some 46) (m_ 33 1023) rfl rfl (ao HT_) ?_
 refine tk_ 10 (some 47) (m_ 33 2047) rfl rfl (tw HT_ HW_) hHeld ?_
 refine pu_ 11 (some 48) (m_ 33 4095) rfl rfl (ao HT_) ?_
 refine pu_ 12 (some 49) (m_ 33 8191) rfl rfl (ao HT_) ?_
 refine pu_ 13 (some 50) (m_ 33 16383) rfl rfl (ao HT_) ?_
 refine pu_ 14 (some 51) (m_ 33 32767) rfl rfl (ao HT_) ?_
 refine pu_ 15 (some 52) (m_ 33 65535) rfl rfl (ao HT_) ?_
 refine tk_ 16 (some 53) (m_ 33 131071) rfl rfl (tw HT_ HW_) hHeld ?_
 refine pu_ 17 (some 54) (m_ 33 262143) rfl rfl (ao HT_) ?_
 refine tk_ 18 (some 55) (m_ 33 524287) rfl rfl (tw HT_ HW_) hHeld ?_
 refine pu_ 19 (some 56) (m_ 33 1048575) rfl rfl (ao HT_) ?_
 refine pu_ 20 (some 57) (m_ 33 2097151) rfl rfl (ao HT_) ?_
 refine pu_ 21 (some 58) (m_ 33 4194303) rfl rfl (ao HT_) ?_
 refine pu_ 22 (some 59) (m_ 33 8388607) rfl rfl (ao HT_) ?_
 refine pu_ 23 (some 60) (m_ 33 16777215) rfl rfl (ao HT_) ?_
 refine pu_ 24 (some 61) (m_ 33 33554431) rfl rfl (ao HT_) ?_
 refine pu_ 25 (some 62) (m_ 33 67108863) rfl rfl (ao HT_) ?_
 refine pu_ 26 (some 63) (m_ 33 134217727) rfl rfl (ao HT_) ?_
 refine pv_ 27 (some 64) (m_ 33 268435455) rfl rfl (ao HT_) ?_
 refine pv_ 28 (some 65) (m_ 33 536870911) rfl rfl (ao HT_) ?_
 refine pv_ 29 (some 66) (m_ 33 1073741823) rfl rfl (ao HT_) ?_
 refine pv_ 30 (some 67) (m_ 33 2147483647) rfl rfl (ao HT_) ?_
 refine pu_ 31 (some 68) (m_ 33 4294967295) rfl rfl (ao HT_) ?_
 refine pu_ 32 (some 0) (m_ 33 8589934591) rfl rfl (ao HT_) ?_
 refine done_ (done_of HT_.out (by kernel_rfl)) ?_
 try go_wp2
 go_ret
 exact ⟨ae,bf HB⟩}};{
 rw [if_neg c12] at H
 have c21:((rd t11 0)==0)=false:=beq_eq_false_iff_ne.mpr c12
 have c22:((rd t11 0) != 0)=true:=bne_iff_ne.mpr c12
 obtain rfl:=Option.some.inj H
 replace HO0:=am (Kd.N_drew HO0.out)
 replace HO6:=am (Kd.N_drew HO6.out)
 replace HO7:=am (Kd.R_drew HO7.out)
 replace HO8:=am (Kd.R_drew HO8.out)
 replace HO9:=am (Kd.R_drew HO9.out)
 replace BK0:=am (blk_drew BK0.out)
 replace BK1:=am (blk_drew BK1.out)
 replace HB:=am (below_drew1 HB.out)
 have p0:0≤(0:Int):=(by omega)
 have q0:0<(t11.length:Int):=od_
 obtain ⟨ad0,e0,hx0⟩:=Kd.at_int (Kd.R_reads' HO8.out).2.2 0 p0 q0
 cases e0
 have qi0:(0<t11.length)=True:=eq_true (by omega)
 (try rw [show ((0:Int)).toNat=0 from rfl] at hx0)
 (try rw [Addr.add_zero'] at hx0)
 replace p0:=eq_true p0
 replace q0:=eq_true q0
 refine start_ (n:=33) (S:=fun w'=>c_ w' gb1 0 (.int .i64 t9)∧c_ w' gb1 1 (.int .i64 t10)∧c_ w' gb1 2 (.slice (some ad0) t11.length co8)∧w'.cell? ad0=some (.int .i64 (rd t11 0))) (ds:=[]) (m_ 33 0) (by kernel_rfl) rfl rfl ⟨ct BK1 0,ct BK1 1,ct BK1 2,hx0⟩ (fun hHeld=>?_);refine with_tabW carrefourlaw11_awake.tab5 carrefourlaw11_awake.bits5 (fun HT_ HW_=>?_)
 generalize w52.drew=w24 at HO0 HO6 HO7 HO8 HO9 BK0 BK1 HB hx0 hHeld ⊢
 refine pu_ 0 (some 37) (m_ 33 1) rfl rfl (ao HT_) ?_
 refine pu_ 1 (some 38) (m_ 33 3) rfl rfl (ao HT_) ?_
 refine pu_ 2 (some 39) (m_ 33 7) rfl rfl (ao HT_) ?_
 refine pu_ 3 (some 40) (m_ 33 15) rfl rfl (ao HT_) ?_
 refine tk_ 4 (some 41) (m_ 33 31) rfl rfl (tw HT_ HW_) hHeld ?_
 refine o1_ 5 (some 42) (m_ 33 63) rfl rfl (oo HT_) (fun K hK=>?_)
 refine goes_ Tryd.func13 (by kernel_rfl) rfl #[.int .i64 11,.int .i64 20] (by rfl) rfl rfl ag ?_
 with_reducible refine (carrefourlaw11_f.calls _ _ _ _ _ _ A8.out).mono ?_
 rintro e w25 ⟨rfl,hb⟩
 have HS0:=(hb.cell (World.block_lt_of_cell? _ _ (hHeld.2.2.2))).trans (hHeld.2.2.2)
 refine ⟨_,rfl,?_⟩
 replace HO0:=am (Kd.N_below (Nt_ HO0.out) hb)
 replace HO6:=am (Kd.N_below (Nt_ HO6.out) hb)
 replace HO7:=rb HO7 hb
 replace HO8:=rb HO8 hb
 replace HO9:=rb HO9 hb
 replace BK0:=am (blk_below (g:=gb0) (o:=.cells #[.string (⟨#[]⟩:ByteArray),.slice none 0 0,.slice none 0 0,.slice Ao6 y0.length co6,.slice Ao5 y1.length co5,.slice none 0 0,.int .i64 0] 28 (0,0)) (bx BK0) hb)
 replace BK1:=bb BK1 hb
 replace HB:=bs HB hb
 (try clear hb)
 refine hK.out _ _ ⟨ct BK1 0,ct BK1 1,ct BK1 2,HS0⟩ (fun hHeld=>?_)
 clear hK K
 refine nr_ (some 42) ?_
 refine pu_ 6 (some 43) (m_ 33 127) rfl rfl (ao HT_) ?_
 refine pu_ 7 (some 44) (m_ 33 255) rfl rfl (ao HT_) ?_
 refine pu_ 8 (some 45) (m_ 33 511) rfl rfl (ao HT_) ?_
 refine pu_ 9 (some 46) (m_ 33 1023) rfl rfl (ao HT_) ?_
 refine tk_ 10 (some 47) (m_ 33 2047) rfl rfl (tw HT_ HW_) hHeld ?_
 refine pu_ 11 (some 48) (m_ 33 4095) rfl rfl (ao HT_) ?_
 refine pu_ 12 (some 49) (m_ 33 8191) rfl rfl (ao HT_) ?_
 refine pu_ 13 (some 50) (m_ 33 16383) rfl rfl (ao HT_) ?_
 refine pu_ 14 (some 51) (m_ 33 32767) rfl rfl (ao HT_) ?_
 refine pu_ 15 (some 52) (m_ 33 65535) rfl rfl (ao HT_) ?_
 refine tk_ 16 (some 53) (m_ 33 131071) rfl rfl (tw HT_ HW_) hHeld ?_
 refine pu_ 17 (some 54) (m_ 33 262143) rfl rfl (ao HT_) ?_
 refine tk_ 18 (some 55) (m_ 33 524287) rfl rfl (tw HT_ HW_) hHeld ?_
 refine pu_ 19 (some 56) (m_ 33 1048575) rfl rfl (ao HT_) ?_
 refine pu_ 20 (some 57) (m_ 33 2097151) rfl rfl (ao HT_) ?_
 refine pu_ 21 (some 58) (m_ 33 4194303) rfl rfl (ao HT_) ?_
 refine pv_ 22 (some 59) (m_ 33 8388607) rfl rfl (ao HT_) ?_
 refine pv_ 23 (some 60) (m_ 33 16777215) rfl rfl (ao HT_) ?_
 refine pv_ 24 (some 61) (m_ 33 33554431) rfl rfl (ao HT_) ?_
 refine pu_ 25 (some 62) (m_ 33 67108863) rfl rfl (ao HT_) ?_
 refine pu_ 26 (some 63) (m_ 33 134217727) rfl rfl (ao HT_) ?_
 refine pv_ 27 (some 64) (m_ 33 268435455) rfl rfl (ao HT_) ?_
 refine pv_ 28 (some 65) (m_ 33 536870911) rfl rfl (ao HT_) ?_
 refine pv_ 29 (some 66) (m_ 33 1073741823) rfl rfl (ao HT_) ?_
 refine pv_ 30 (some 67) (m_ 33 2147483647) rfl rfl (ao HT_) ?_
 refine pu_ 31 (some 68) (m_ 33 4294967295) rfl rfl (ao HT_) ?_
 refine pu_ 32 (some 0) (m_ 33 8589934591) rfl rfl (ao HT_) ?_
 refine done_ (done_of HT_.out (by kernel_rfl)) ?_
 try go_wp2
 go_ret
 exact ⟨ae,bf HB⟩}};{
 rw [if_neg c11] at H
 exact absurd H (by simp)}};{
 rw [if_neg c8] at H
 have c15:((t11.length:Int)==2)=false:=beq_eq_false_iff_ne.mpr c8
 have c16:((t11.length:Int) != 2)=true:=bne_iff_ne.mpr c8
 obtain rfl:=Option.some.inj H
 replace HO0:=am (Kd.N_drew HO0.out)
 replace HO6:=am (Kd.N_drew HO6.out)
 replace HO7:=am (Kd.R_drew HO7.out)
 replace HO8:=am (Kd.R_drew HO8.out)
 replace HO9:=am (Kd.R_drew HO9.out)
 replace BK0:=am (blk_drew BK0.out)
 replace BK1:=am (blk_drew BK1.out)
 replace HB:=am (below_drew1 HB.out)
 refine start_ (n:=33) (S:=fun w'=>c_ w' gb1 0 (.int .i64 t9)∧c_ w' gb1 1 (.int .i64 t10)∧c_ w' gb1 2 (.slice Ao8 t11.length co8)) (ds:=[]) (m_ 33 0) (by kernel_rfl) rfl rfl ⟨ct BK1 0,ct BK1 1,ct BK1 2⟩ (fun hHeld=>?_);refine with_tabW carrefourlaw11_awake.tab5 carrefourlaw11_awake.bits5 (fun HT_ HW_=>?_)
 generalize w52.drew=w27 at HO0 HO6 HO7 HO8 HO9 BK0 BK1 HB hHeld ⊢
 refine pu_ 0 (some 37) (m_ 33 1) rfl rfl (ao HT_) ?_
 refine pu_ 1 (some 38) (m_ 33 3) rfl rfl (ao HT_) ?_
 refine pu_ 2 (some 39) (m_ 33 7) rfl rfl (ao HT_) ?_
 refine pu_ 3 (some 40) (m_ 33 15) rfl rfl (ao HT_) ?_
 refine tk_ 4 (some 41) (m_ 33 31) rfl rfl (tw HT_ HW_) hHeld ?_
 refine o1_ 5 (some 42) (m_ 33 63) rfl rfl (oo HT_) (fun K hK=>?_)
 refine gs_ rfl Tryd.func13 (carrefourlaw11_f.calls _ _ _ _ _ _ A8.out) ag ?_
 intro w28 hb
 replace HO0:=am (Kd.N_below (Nt_ HO0.out) hb)
 replace HO6:=am (Kd.N_below (Nt_ HO6.out) hb)
 replace HO7:=rb HO7 hb
 replace HO8:=rb HO8 hb
 replace HO9:=rb HO9 hb
 replace BK0:=am (blk_below (g:=gb0) (o:=.cells #[.string (⟨#[]⟩:ByteArray),.slice none 0 0,.slice none 0 0,.slice Ao6 y0.length co6,.slice Ao5 y1.length co5,.slice none 0 0,.int .i64 0] 28 (0,0)) (bx BK0) hb)
 replace BK1:=bb BK1 hb
 replace HB:=bs HB hb
 (try clear hb)
 refine hK.out _ _ ⟨ct BK1 0,ct BK1 1,ct BK1 2⟩ (fun hHeld=>?_)
 clear hK K
 refine nr_ (some 42) ?_
 refine pu_ 6 (some 43) (m_ 33 127) rfl rfl (ao HT_) ?_
 refine pu_ 7 (some 44) (m_ 33 255) rfl rfl (ao HT_) ?_
 refine pu_ 8 (some 45) (m_ 33 511) rfl rfl (ao HT_) ?_
 refine pu_ 9 (some 46) (m_ 33 1023) rfl rfl (ao HT_) ?_
 refine tk_ 10 (some 47) (m_ 33 2047) rfl rfl (tw HT_ HW_) hHeld ?_
 refine pu_ 11 (some 48) (m_ 33 4095) rfl rfl (ao HT_) ?_
 refine pu_ 12 (some 49) (m_ 33 8191) rfl rfl (ao HT_) ?_
 refine pu_ 13 (some 50) (m_ 33 16383) rfl rfl (ao HT_) ?_
 refine pu_ 14 (some 51) (m_ 33 32767) rfl rfl (ao HT_) ?_
 refine pv_ 15 (some 52) (m_ 33 65535) rfl rfl (ao HT_) ?_
 refine pv_ 16 (some 53) (m_ 33 131071) rfl rfl (ao HT_) ?_
 refine pv_ 17 (some 54) (m_ 33 262143) rfl rfl (ao HT_) ?_
 refine pv_ 18 (some 55) (m_ 33 524287) rfl rfl (ao HT_) ?_
 refine pv_ 19 (some 56) (m_ 33 1048575) rfl rfl (ao HT_) ?_
 refine pu_ 20 (some 57) (m_ 33 2097151) rfl rfl (ao HT_) ?_
 refine pu_ 21 (some 58) (m_ 33 4194303) rfl rfl (ao HT_) ?_
 refine pv_ 22 (some 59) (m_ 33 8388607) rfl rfl (ao HT_) ?_
 refine pv_ 23 (some 60) (m_ 33 16777215) rfl rfl (ao HT_) ?_
 refine pv_ 24 (some 61) (m_ 33 33554431) rfl rfl (ao HT_) ?_
 refine pu_ 25 (some 62) (m_ 33 67108863) rfl rfl (ao HT_) ?_
 refine pu_ 26 (some 63) (m_ 33 134217727) rfl rfl (ao HT_) ?_
 refine pv_ 27 (some 64) (m_ 33 268435455) rfl rfl (ao HT_) ?_
 refine pv_ 28 (some 65) (m_ 33 536870911) rfl rfl (ao HT_) ?_
 refine pv_ 29 (some 66) (m_ 33 1073741823) rfl rfl (ao HT_) ?_
 refine pv_ 30 (some 67) (m_ 33 2147483647) rfl rfl (ao HT_) ?_
 refine pu_ 31 (some 68) (m_ 33 4294967295) rfl rfl (ao HT_) ?_
 refine pu_ 32 (some 0) (m_ 33 8589934591) rfl rfl (ao HT_) ?_
 refine done_ (done_of HT_.out (by kernel_rfl)) ?_
 try go_wp2
 go_ret
 exact ⟨ae,bf HB⟩}};{
 rw [if_neg c9] at H
 have c4:(t9==t13&&(t10==t14))=false:=by simpa using c9
 (try (have c5:decide (t9=t13&&(t10==t14))=false:=by simpa using c9))
 (try (have c6:(t9==t13&&(t10==t14))=false:=by simpa using c9))
 (try (have c29:¬ (t9=t13&&(t10==t14)):=by simpa using c9))
 clear c9
 obtain rfl:=Option.some.inj H
 replace HO0:=am (Kd.N_drew HO0.out)
 replace HO6:=am (Kd.N_drew HO6.out)
 replace HO7:=am (Kd.R_drew HO7.out)
 replace HO8:=am (Kd.R_drew HO8.out)
 replace HO9:=am (Kd.R_drew HO9.out)
 replace BK0:=am (blk_drew BK0.out)
 replace BK1:=am (blk_drew BK1.out)
 replace HB:=am (below_drew1 HB.out)
 refine start_ (n:=33) (S:=fun w'=>c_ w' gb1 0 (.int .i64 t9)∧c_ w' gb1 1 (.int .i64 t10)∧c_ w' gb1 2 (.slice Ao8 t11.length co8)) (ds:=[]) (m_ 33 0) (by kernel_rfl) rfl rfl ⟨ct BK1 0,ct BK1 1,ct BK1 2⟩ (fun hHeld=>?_);refine with_tabW carrefourlaw11_awake.tab5 carrefourlaw11_awake.bits5 (fun HT_ HW_=>?_)
 generalize w52.drew=w30 at HO0 HO6 HO7 HO8 HO9 BK0 BK1 HB hHeld ⊢
 refine pu_ 0 (some 37) (m_ 33 1) rfl rfl (ao HT_) ?_
 refine pu_ 1 (some 38) (m_ 33 3) rfl rfl (ao HT_) ?_
 refine pu_ 2 (some 39) (m_ 33 7) rfl rfl (ao HT_) ?_
 refine pu_ 3 (some 40) (m_ 33 15) rfl rfl (ao HT_) ?_
 refine tk_ 4 (some 41) (m_ 33 31) rfl rfl (tw HT_ HW_) hHeld ?_
 refine o1_ 5 (some 42) (m_ 33 63) rfl rfl (oo HT_) (fun K hK=>?_)
 refine gs_ rfl Tryd.func13 (carrefourlaw11_f.calls _ _ _ _ _ _ A8.out) ag ?_
 intro w31 hb
 replace HO0:=am (Kd.N_below (Nt_ HO0.out) hb)
 replace HO6:=am (Kd.N_below (Nt_ HO6.out) hb)
 replace HO7:=rb HO7 hb
 replace HO8:=rb HO8 hb
 replace HO9:=rb HO9 hb
 replace BK0:=am (blk_below (g:=gb0) (o:=.cells #[.string (⟨#[]⟩:ByteArray),.slice none 0 0,.slice none 0 0,.slice Ao6 y0.length co6,.slice Ao5 y1.length co5,.slice none 0 0,.int .i64 0] 28 (0,0)) (bx BK0) hb)
 replace BK1:=bb BK1 hb
 replace HB:=bs HB hb
 (try clear hb)
 refine hK.out _ _ ⟨ct BK1 0,ct BK1 1,ct BK1 2⟩ (fun hHeld=>?_)
 clear hK K
 refine nr_ (some 42) ?_
 refine pu_ 6 (some 43) (m_ 33 127) rfl rfl (ao HT_) ?_
 refine pu_ 7 (some 44) (m_ 33 255) rfl rfl (ao HT_) ?_
 refine pu_ 8 (some 45) (m_ 33 511) rfl rfl (ao HT_) ?_
 refine pv_ 9 (some 46) (m_ 33 1023) rfl rfl (ao HT_) ?_
 refine pv_ 10 (some 47) (m_ 33 2047) rfl rfl (ao HT_) ?_
 refine pv_ 11 (some 48) (m_ 33 4095) rfl rfl (ao HT_) ?_
 refine pv_ 12 (some 49) (m_ 33 8191) rfl rfl (ao HT_) ?_
 refine pu_ 13 (some 50) (m_ 33 16383) rfl rfl (ao HT_) ?_
 refine pu_ 14 (some 51) (m_ 33 32767) rfl rfl (ao HT_) ?_
 refine pv_ 15 (some 52) (m_ 33 65535) rfl rfl (ao HT_) ?_
 refine pv_ 16 (some 53) (m_ 33 131071) rfl rfl (ao HT_) ?_
 refine pv_ 17 (some 54) (m_ 33 262143) rfl rfl (ao HT_) ?_
 refine pv_ 18 (some 55) (m_ 33 524287) rfl rfl (ao HT_) ?_
 refine pv_ 19 (some 56) (m_ 33 1048575) rfl rfl (ao HT_) ?_
 refine pu_ 20 (some 57) (m_ 33 2097151) rfl rfl (ao HT_) ?_
 refine pu_ 21 (some 58) (m_ 33 4194303) rfl rfl (ao HT_) ?_
 refine pv_ 22 (some 59) (m_ 33 8388607) rfl rfl (ao HT_) ?_
 refine pv_ 23 (some 60) (m_ 33 16777215) rfl rfl (ao HT_) ?_
 refine pv_ 24 (some 61) (m_ 33 33554431) rfl rfl (ao HT_) ?_
 refine pu_ 25 (some 62) (m_ 33 67108863) rfl rfl (ao HT_) ?_
 refine pu_ 26 (some 63) (m_ 33 134217727) rfl rfl (ao HT_) ?_
 refine pv_ 27 (some 64) (m_ 33 268435455) rfl rfl (ao HT_) ?_
 refine pv_ 28 (some 65) (m_ 33 536870911) rfl rfl (ao HT_) ?_
 refine pv_ 29 (some 66) (m_ 33 1073741823) rfl rfl (ao HT_) ?_
 refine pv_ 30 (some 67) (m_ 33 2147483647) rfl rfl (ao HT_) ?_
 refine pu_ 31 (some 68) (m_ 33 4294967295) rfl rfl (ao HT_) ?_
 refine pu_ 32 (some 0) (m_ 33 8589934591) rfl rfl (ao HT_) ?_
 refine done_ (done_of HT_.out (by kernel_rfl)) ?_
 try go_wp2
 go_ret
 exact ⟨ae,bf HB⟩}};{
 rw [if_neg c7] at H
 have c0:(t12==0)=false:=beq_eq_false_iff_ne.mpr c7
 have c1:(t12 != 0)=true:=bne_iff_ne.mpr c7
 obtain rfl:=Option.some.inj H
 replace HO0:=am (Kd.N_drew HO0.out)
 replace HO6:=am (Kd.N_drew HO6.out)
 replace HO7:=am (Kd.R_drew HO7.out)
 replace HO8:=am (Kd.R_drew HO8.out)
 replace HO9:=am (Kd.R_drew HO9.out)
 replace BK0:=am (blk_drew BK0.out)
 replace BK1:=am (blk_drew BK1.out)
 replace HB:=am (below_drew1 HB.out)
 refine start_ (n:=33) (S:=fun w'=>True) (ds:=[]) (m_ 33 0) (by kernel_rfl) rfl rfl trivial (fun hHeld=>?_);refine with_tabW carrefourlaw11_awake.tab5 carrefourlaw11_awake.bits5 (fun HT_ HW_=>?_)
 generalize w52.drew=w33 at HO0 HO6 HO7 HO8 HO9 BK0 BK1 HB hHeld ⊢
 refine pu_ 0 (some 37) (m_ 33 1) rfl rfl (ao HT_) ?_
 refine pu_ 1 (some 38) (m_ 33 3) rfl rfl (ao HT_) ?_
 refine pu_ 2 (some 39) (m_ 33 7) rfl rfl (ao HT_) ?_
 refine pv_ 3 (some 40) (m_ 33 15) rfl rfl (ao HT_) ?_
 refine pv_ 4 (some 41) (m_ 33 31) rfl rfl (ao HT_) ?_
 refine pv_ 5 (some 42) (m_ 33 63) rfl rfl (ao HT_) ?_
 refine pv_ 6 (some 43) (m_ 33 127) rfl rfl (ao HT_) ?_
 refine pu_ 7 (some 44) (m_ 33 255) rfl rfl (ao HT_) ?_
 refine pu_ 8 (some 45) (m_ 33 511) rfl rfl (ao HT_) ?_
 refine pv_ 9 (some 46) (m_ 33 1023) rfl rfl (ao HT_) ?_
 refine pv_ 10 (some 47) (m_ 33 2047) rfl rfl (ao HT_) ?_
 refine pv_ 11 (some 48) (m_ 33 4095) rfl rfl (ao HT_) ?_
 refine pv_ 12 (some 49) (m_ 33 8191) rfl rfl (ao HT_) ?_
 refine pu_ 13 (some 50) (m_ 33 16383) rfl rfl (ao HT_) ?_
 refine pu_ 14 (some 51) (m_ 33 32767) rfl rfl (ao HT_) ?_
 refine pv_ 15 (some 52) (m_ 33 65535) rfl rfl (ao HT_) ?_
 refine pv_ 16 (some 53) (m_ 33 131071) rfl rfl (ao HT_) ?_
 refine pv_ 17 (some 54) (m_ 33 262143) rfl rfl (ao HT_) ?_
 refine pv_ 18 (some 55) (m_ 33 524287) rfl rfl (ao HT_) ?_
 refine pv_ 19 (some 56) (m_ 33 1048575) rfl rfl (ao HT_) ?_
 refine pu_ 20 (some 57) (m_ 33 2097151) rfl rfl (ao HT_) ?_
 refine pu_ 21 (some 58) (m_ 33 4194303) rfl rfl (ao HT_) ?_
 refine pv_ 22 (some 59) (m_ 33 8388607) rfl rfl (ao HT_) ?_
 refine pv_ 23 (some 60) (m_ 33 16777215) rfl rfl (ao HT_) ?_
 refine pv_ 24 (some 61) (m_ 33 33554431) rfl rfl (ao HT_) ?_
 refine pu_ 25 (some 62) (m_ 33 67108863) rfl rfl (ao HT_) ?_
 refine pu_ 26 (some 63) (m_ 33 134217727) rfl rfl (ao HT_) ?_
 refine pv_ 27 (some 64) (m_ 33 268435455) rfl rfl (ao HT_) ?_
 refine pv_ 28 (some 65) (m_ 33 536870911) rfl rfl (ao HT_) ?_
 refine pv_ 29 (some 66) (m_ 33 1073741823) rfl rfl (ao HT_) ?_
 refine pv_ 30 (some 67) (m_ 33 2147483647) rfl rfl (ao HT_) ?_
 refine pu_ 31 (some 68) (m_ 33 4294967295) rfl rfl (ao HT_) ?_
 refine pu_ 32 (some 0) (m_ 33 8589934591) rfl rfl (ao HT_) ?_
 refine done_ (done_of HT_.out (by kernel_rfl)) ?_
 try go_wp2
 go_ret
 exact ⟨ae,bf HB⟩}
end Go.Proofs.YtenphnkiacfmiaaDoor.X
