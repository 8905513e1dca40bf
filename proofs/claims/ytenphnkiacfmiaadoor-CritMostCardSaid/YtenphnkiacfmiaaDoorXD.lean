/- Walks: each '.calls' says that the Go function comes to what its Lean function tells. Conditions: as each theorem's head says. -/
import Derived.Test.YtenphnkiacfmiaaDoorX0
namespace Go.Proofs.YtenphnkiacfmiaaDoor.X
open Go.RowKit Go.Proofs.YtenphnkiacfmiaaDoorW.PrintWords Go.Proofs.YtenphnkiacfmiaaDoorW.PrintLast Go.Proofs.YtenphnkiacfmiaaDoorW.PrintMore
attribute [local go_sem] max2_int min2_int max_two min_two max_three min_three max_four min_four
set_option linter.unusedVariables false
set_option maxHeartbeats 8000000
set_option maxRecDepth 100000
set_option linter.unusedSimpArgs false
mutual
def carrefourlaw06_strings.l0:Nat→List ByteArray→Int→Option (Bool)
 | 0,_,_=>none
 | k+1,x0,x3=>if x3<(x0.length:Int) then (carrefourlaw06_strings.j1 k x0 x3 (decide (x3<50))) else (carrefourlaw06_strings.j1 k x0 x3 false)
def carrefourlaw06_strings.j1:Nat→List ByteArray→Int→Bool→Option (Bool)
 | 0,_,_,_=>none
 | k+1,x0,x3,x11=>if x11=true then (if 0≤x3 then (if x3<(x0.length:Int) then (if ((rdOf ByteArray.empty x0 x3).size:Int)>100 then (some false) else (carrefourlaw06_strings.l0 k x0 (wrap64 (x3+1)))) else (none)) else (none)) else (some (decide ((x0.length:Int)≤50)))
end
def carrefourlaw06_strings.f (k:Nat) (l0:List ByteArray):Option (Bool):=carrefourlaw06_strings.l0 k l0 0
mutual
def carrefourlaw06_node.j0:Nat→Bool→ByteArray→List (S96)→List (S98)→List (S61)→List (S33)→List (S100)→Int→Option (Bool)
 | 0,_,_,_,_,_,_,_,_=>none
 | k+1,x37,x103000,x103001,x103002,x103003,x103004,x103005,x103006=>if x37=true then (some false) else (carrefourlaw06_node.l0 k (([x103000]:List ByteArray)) 0 x103000 x103001 x103002 x103003 x103004 x103005 x103006)
def carrefourlaw06_node.l0:Nat→List ByteArray→Int→ByteArray→List (S96)→List (S98)→List (S61)→List (S33)→List (S100)→Int→Option (Bool)
 | 0,_,_,_,_,_,_,_,_,_=>none
 | k+1,x3,x4,x103000,x103001,x103002,x103003,x103004,x103005,x103006=>if x4<(x103001.length:Int) then (if 0≤x4 then (if x3.length<8796093022208 then (carrefourlaw06_node.l0 k (x3++[(rd_T96 x103001 x4).f0]) (wrap64 (x4+1)) x103000 x103001 x103002 x103003 x103004 x103005 x103006) else (none)) else (none)) else (if 0≤(mn (x3.length:Int) 50) then (if (mn (x3.length:Int) 50)≤(x3.length:Int) then ((carrefourlaw06_strings.f k (x3.take ((mn (x3.length:Int) 50):Int).toNat)).bind fun t114=>(if t114=true then (carrefourlaw06_node.l1 k 0 x103000 x103001 x103002 x103003 x103004 x103005 x103006) else (some false))) else (none)) else (none))
def carrefourlaw06_node.l1:Nat→Int→ByteArray→List (S96)→List (S98)→List (S61)→List (S33)→List (S100)→Int→Option (Bool)
 | 0,_,_,_,_,_,_,_,_=>none
 | k+1,x5,x103000,x103001,x103002,x103003,x103004,x103005,x103006=>if x5<(x103002.length:Int) then (if 0≤x5 then ((carrefourlaw06_strings.f k (([(rd_T98 x103002 x5).f0,(rd_T98 x103002 x5).f1]:List ByteArray))).bind fun t120=>(if t120=true then (carrefourlaw06_node.l1 k (wrap64 (x5+1)) x103000 x103001 x103002 x103003 x103004 x103005 x103006) else (some false))) else (none)) else (carrefourlaw06_node.l2 k 0 x103000 x103001 x103002 x103003 x103004 x103005 x103006)
def carrefourlaw06_node.l2:Nat→Int→ByteArray→List (S96)→List (S98)→List (S61)→List (S33)→List (S100)→Int→Option (Bool)
 | 0,_,_,_,_,_,_,_,_=>none
 | k+1,x6,x103000,x103001,x103002,x103003,x103004,x103005,x103006=>if x6<(x103003.length:Int) then (if 0≤x6 then ((carrefourlaw06_strings.f k (([(rd_T61 x103003 x6).f0]:List ByteArray))).bind fun t125=>(if t125=true then ((carrefourlaw06_strings.f k ((rd_T61 x103003 x6).f1)).bind fun t127=>(if t127=true then (carrefourlaw06_node.l2 k (wrap64 (x6+1)) x103000 x103001 x103002 x103003 x103004 x103005 x103006) else (some false))) else (some false))) else (none)) else (carrefourlaw06_node.l3 k 0 x103000 x103001 x103002 x103003 x103004 x103005 x103006)
def carrefourlaw06_node.l3:Nat→Int→ByteArray→List (S96)→List (S98)→List (S61)→List (S33)→List (S100)→Int→Option (Bool)
 | 0,_,_,_,_,_,_,_,_=>none
 | k+1,x7,x103000,x103001,x103002,x103003,x103004,x103005,x103006=>if x7<(x103004.length:Int) then (if 0≤x7 then (if (((rd_T33 x103004 x7).f0).length:Int)>5 then (some false) else (carrefourlaw06_node.l4 k x7 0 x103000 x103001 x103002 x103003 x103004 x103005 x103006)) else (none)) else (carrefourlaw06_node.l5 k 0 x103000 x103001 x103002 x103003 x103004 x103005 x103006)
def carrefourlaw06_node.l4:Nat→Int→Int→ByteArray→List (S96)→List (S98)→List (S61)→List (S33)→List (S100)→Int→Option (Bool)
 | 0,_,_,_,_,_,_,_,_,_=>none
 | k+1,x7,x8,x103000,x103001,x103002,x103003,x103004,x103005,x103006=>if 0≤x7 then (if x7<(x103004.length:Int) then (if x8<(((rd_T33 x103004 x7).f0).length:Int) then (if 0≤x8 then ((carrefourlaw06_strings.f k ((rd_T63 ((rd_T33 x103004 x7).f0) x8).f1)).bind fun t132=>(if t132=true then (carrefourlaw06_node.l4 k x7 (wrap64 (x8+1)) x103000 x103001 x103002 x103003 x103004 x103005 x103006) else (some false))) else (none)) else (carrefourlaw06_node.l3 k (wrap64 (x7+1)) x103000 x103001 x103002 x103003 x103004 x103005 x103006)) else (none)) else (none)
def carrefourlaw06_node.l5:Nat→Int→ByteArray→List (S96)→List (S98)→List (S61)→List (S33)→List (S100)→Int→Option (Bool)
 | 0,_,_,_,_,_,_,_,_=>none
 | k+1,x9,x103000,x103001,x103002,x103003,x103004,x103005,x103006=>if x9<(x103005.length:Int) then (if 0≤x9 then ((carrefourlaw06_strings.f k (([(rd_T100 x103005 x9).f0,(rd_T100 x103005 x9).f1]:List ByteArray))).bind fun t138=>(if t138=true then (carrefourlaw06_node.l5 k (wrap64 (x9+1)) x103000 x103001 x103002 x103003 x103004 x103005 x103006) else (some false))) else (none)) else (some true)
end
def carrefourlaw06_node.f (k:Nat) (a0_0:ByteArray) (l0_1:List (S96)) (l0_2:List (S98)) (l0_3:List (S61)) (l0_4:List (S33)) (l0_5:List (S100)) (a0_6:Int):Option (Bool):=if (l0_1.length:Int)>50 then (carrefourlaw06_node.j0 k true a0_0 l0_1 l0_2 l0_3 l0_4 l0_5 a0_6) else (if (l0_2.length:Int)>50 then (carrefourlaw06_node.j0 k true a0_0 l0_1 l0_2 l0_3 l0_4 l0_5 a0_6) else (if (l0_3.length:Int)>50 then (carrefourlaw06_node.j0 k true a0_0 l0_1 l0_2 l0_3 l0_4 l0_5 a0_6) else (if (l0_4.length:Int)>50 then (carrefourlaw06_node.j0 k true a0_0 l0_1 l0_2 l0_3 l0_4 l0_5 a0_6) else (carrefourlaw06_node.j0 k (decide ((l0_5.length:Int)>80)) a0_0 l0_1 l0_2 l0_3 l0_4 l0_5 a0_6))))
mutual
def carrefourlaw06_Few.j0:Nat→Bool→Int→Int→Int→Int→Int→List (S28)→List (S87)→Int→Int→Option (Bool)
 | 0,_,_,_,_,_,_,_,_,_,_=>none
 | k+1,x14,x140000,x140001,x140002,x140003,x140004,x140005,x140006,x140007,x140008=>if x14=true then (some false) else (carrefourlaw06_Few.l0 k 0 x140000 x140001 x140002 x140003 x140004 x140005 x140006 x140007 x140008)
def carrefourlaw06_Few.l0:Nat→Int→Int→Int→Int→Int→Int→List (S28)→List (S87)→Int→Int→Option (Bool)
 | 0,_,_,_,_,_,_,_,_,_,_=>none
 | k+1,x3,x140000,x140001,x140002,x140003,x140004,x140005,x140006,x140007,x140008=>if x3<(x140005.length:Int) then (if 0≤x3 then ((carrefourlaw06_node.f k ((rd_T28 x140005 x3).f0) ((rd_T28 x140005 x3).f1) ((rd_T28 x140005 x3).f2) ((rd_T28 x140005 x3).f3) ((rd_T28 x140005 x3).f4) ((rd_T28 x140005 x3).f5) ((rd_T28 x140005 x3).f6)).bind fun t141=>(if t141=true then (carrefourlaw06_Few.l0 k (wrap64 (x3+1)) x140000 x140001 x140002 x140003 x140004 x140005 x140006 x140007 x140008) else (some false))) else (none)) else (carrefourlaw06_Few.l1 k 0 x140000 x140001 x140002 x140003 x140004 x140005 x140006 x140007 x140008)
def carrefourlaw06_Few.l1:Nat→Int→Int→Int→Int→Int→Int→List (S28)→List (S87)→Int→Int→Option (Bool)
 | 0,_,_,_,_,_,_,_,_,_,_=>none
 | k+1,x4,x140000,x140001,x140002,x140003,x140004,x140005,x140006,x140007,x140008=>if x4<(x140006.length:Int) then (if 0≤x4 then ((carrefourlaw06_strings.f k (([(rd_T87 x140006 x4).f0,(rd_T87 x140006 x4).f1,(rd_T87 x140006 x4).f2]:List ByteArray))).bind fun t148=>(if t148=true then (carrefourlaw06_Few.l1 k (wrap64 (x4+1)) x140000 x140001 x140002 x140003 x140004 x140005 x140006 x140007 x140008) else (some false))) else (none)) else (some true)
end
def carrefourlaw06_Few.f (k:Nat) (a0_0:Int) (a0_1:Int) (a0_2:Int) (a0_3:Int) (a0_4:Int) (l0_5:List (S28)) (l0_6:List (S87)) (a0_7:Int) (a0_8:Int):Option (Bool):=if (l0_5.length:Int)>15 then (carrefourlaw06_Few.j0 k true a0_0 a0_1 a0_2 a0_3 a0_4 l0_5 l0_6 a0_7 a0_8) else (carrefourlaw06_Few.j0 k (decide ((l0_6.length:Int)>15)) a0_0 a0_1 a0_2 a0_3 a0_4 l0_5 l0_6 a0_7 a0_8)
def carrefourlaw11_few.f (k:Nat) (a0_0:ByteArray) (l0_1:List (S96)) (l0_2:List (S98)) (l0_3:List (S61)) (l0_4:List (S33)) (l0_5:List (S100)) (a0_6:Int) (l1:List (S36)):Option (Bool):=if (l1.length:Int)≤50 then ((carrefourlaw06_Few.f k 0 0 0 0 0 (([(⟨a0_0,l0_1,l0_2,l0_3,l0_4,l0_5,a0_6⟩:S28)]:List (S28))) ([]:List (S87)) 0 0).bind fun t153=>(some t153)) else (some false)
def crit_Sum_1.f (l0_0:List (S63)):Option (Bool):=some ((l0_0.length:Int)==0)
def frac_nought.f :Option (Int × Int):=some (0,1)
def whole_size.f (a0:Int):Option (Int):=if a0<0 then (some (IntKind.u64.wrap (-(IntKind.u64.wrap (a0))))) else (some (IntKind.u64.wrap (a0)))
def whole_signed.j0:Nat→Int→Bool→Option (Int × Int)
 | 0,_,_=>none
 | k+1,x0,x6=>if x6=true then (some (wrap64 (IntKind.u64.wrap (-x0)),0)) else (if x0≤9223372036854775807 then (some (wrap64 (x0),0)) else (some (0,2)))
def whole_signed.f (k:Nat) (a0:Int) (a1:Int):Option (Int × Int):=if a1<0 then (whole_signed.j0 k a0 (decide (a0≤9223372036854775808))) else (whole_signed.j0 k a0 false)
def bits_TrailingZeros64.f (a0:Int):Option Int:=if 0≤a0∧a0<18446744073709551616 then some ((Lib.ctz 64 a0.toNat:Nat):Int) else none
mutual
def whole_gcd.j0:Nat→Int→Int→Bool→Option (Int)
 | 0,_,_,_=>none
 | k+1,x0,x1,x11=>if x11=true then (some (Go.bits .or .u64 x0 x1)) else ((bits_TrailingZeros64.f (Go.bits .or .u64 x0 x1)).bind fun t156=>((bits_TrailingZeros64.f x0).bind fun t157=>(if 0≤t157 then (whole_gcd.l0 k (shr .u64 x0 t157) x1 t156) else (none))))
def whole_gcd.l0:Nat→Int→Int→Int→Option (Int)
 | 0,_,_,_=>none
 | k+1,x0,x1,x5=>if x1=0 then (if 0≤x5 then (some (shl .u64 x0 x5)) else (none)) else ((bits_TrailingZeros64.f x1).bind fun t158=>(if 0≤t158 then (if x0>(shr .u64 x1 t158) then (whole_gcd.l0 k (shr .u64 x1 t158) (IntKind.u64.wrap (x0-(shr .u64 x1 t158))) x5) else (whole_gcd.l0 k x0 (IntKind.u64.wrap ((shr .u64 x1 t158)-x0)) x5)) else (none)))
end
def whole_gcd.f (k:Nat) (a0:Int) (a1:Int):Option (Int):=if a0=0 then (whole_gcd.j0 k a0 a1 true) else (whole_gcd.j0 k a0 a1 (a1==0))
def whole_Gcd.f (k:Nat) (a0:Int) (a1:Int):Option (Int × Int):=(whole_size.f a0).bind fun t159=>((whole_size.f a1).bind fun t160=>((whole_gcd.f k t159 t160).bind fun t161=>((whole_signed.f k t161 1).bind fun bt162=>(some (bt162.1,bt162.2)))))
def frac_Right.f (k:Nat) (a0_0:Int) (a0_1:Int):Option (Bool):=(whole_Gcd.f k a0_0 a0_1).bind fun bt165=>(if a0_1≥1 then (if bt165.2=0 then (some (bt165.1==1)) else (some false)) else (some false))
def frac_norm.f (k:Nat) (a0_0:Int) (a0_1:Int):Option (Int × Int):=(frac_Right.f k a0_0 a0_1).bind fun t169=>(if t169=true then (some (a0_0,a0_1)) else ((frac_nought.f).bind fun bt170=>(some (bt170.1,bt170.2))))
def frac_sized.f (a0:Int):Option (Bool × Int × Int):=if a0<0 then (some (true,0,IntKind.u64.wrap (-(IntKind.u64.wrap (a0))))) else (some (false,0,IntKind.u64.wrap (a0)))
def bits_Mul64.f (a0:Int) (a1:Int):Option (Int × Int):=some (IntKind.u64.wrap ((IntKind.u64.wrap ((IntKind.u64.wrap ((a0 / 4294967296)*(a1 / 4294967296)))+((IntKind.u64.wrap ((IntKind.u64.wrap ((a0 / 4294967296)*(Go.bits .and .u64 a1 4294967295)))+((IntKind.u64.wrap ((Go.bits .and .u64 a0 4294967295)*(Go.bits .and .u64 a1 4294967295))) / 4294967296))) / 4294967296)))+((IntKind.u64.wrap ((Go.bits .and .u64 (IntKind.u64.wrap ((IntKind.u64.wrap ((a0 / 4294967296)*(Go.bits .and .u64 a1 4294967295)))+((IntKind.u64.wrap ((Go.bits .and .u64 a0 4294967295)*(Go.bits .and .u64 a1 4294967295))) / 4294967296))) 4294967295)+(IntKind.u64.wrap ((Go.bits .and .u64 a0 4294967295)*(a1 / 4294967296))))) / 4294967296)),IntKind.u64.wrap (a0*a1))
def frac_multiply.f (a0:Int) (a1:Int):Option (Int × Int):=(bits_Mul64.f a0 a1).bind fun bt174=>(some (bt174.1,bt174.2))
def frac_signed_times.f (a0_0:Bool) (a0_1:Int) (a0_2:Int) (a1_0:Bool) (a1_1:Int) (a1_2:Int):Option (Bool × Int × Int):=(frac_multiply.f a0_2 a1_2).bind fun bt179=>(some ((a0_0 != a1_0),bt179.1,bt179.2))
def frac_wide_cmp.f (a0_0:Int) (a0_1:Int) (a1_0:Int) (a1_1:Int):Option (Int):=if (a0_0==a1_0&&(a0_1==a1_1))=true then (some 0) else (if a0_0<a1_0 then (some (-1)) else (if a0_0=a1_0 then (if a0_1<a1_1 then (some (-1)) else (some 1)) else (some 1)))
def bits_Sub64.f (a0:Int) (a1:Int) (a2:Int):Option (Int × Int):=if 0≤a0∧0≤a1∧a1<18446744073709551616∧0≤a2∧a2≤1 then some ((a0-a1-a2) % 18446744073709551616,if a0<a1+a2 then 1 else 0) else none
def sub64Entry:Array Value→Sem Value:=fun args=>do
 let (x, y, b) ← Extern.MathBitsCarry.three "Sub64" args
 pure (Extern.MathBitsCarry.pair ((x+Extern.MathBitsCarry.m64-y-b) % Extern.MathBitsCarry.m64) (if x<y+b then 1 else 0))
def frac_wide_minus.f (a0_0:Int) (a0_1:Int) (a1_0:Int) (a1_1:Int):Option (Int × Int):=(bits_Sub64.f a0_1 a1_1 0).bind fun bt186=>((bits_Sub64.f a0_0 a1_0 bt186.2).bind fun bt188=>(some (bt188.1,bt186.1)))
def frac_wide_zero.f (a0_0:Int) (a0_1:Int):Option (Bool):=some ((Go.bits .or .u64 a0_0 a0_1)==0)
def frac_wide_twos.f (a0_0:Int) (a0_1:Int):Option (Int):=if a0_1=0 then ((bits_TrailingZeros64.f a0_0).bind fun t192=>(some (wrap64 (64+t192)))) else ((bits_TrailingZeros64.f a0_1).bind fun t193=>(some t193))
def frac_wide_down.f (a0_0:Int) (a0_1:Int) (a1:Int):Option (Int × Int):=if a1≥64 then (if 0≤(wrap64 (a1-64)) then (some (0,shr .u64 a0_0 (wrap64 (a1-64)))) else (none)) else (if 0≤a1 then (if 0≤(wrap64 (64-a1)) then (some (shr .u64 a0_0 a1,Go.bits .or .u64 (shr .u64 a0_1 a1) (shl .u64 a0_0 (wrap64 (64-a1))))) else (none)) else (none))
def frac_wide_up.f (a0_0:Int) (a0_1:Int) (a1:Int):Option (Int × Int):=if a1≥64 then (if 0≤(wrap64 (a1-64)) then (some (shl .u64 a0_1 (wrap64 (a1-64)),0)) else (none)) else (if 0≤a1 then (if 0≤(wrap64 (64-a1)) then (some (Go.bits .or .u64 (shl .u64 a0_0 a1) (shr .u64 a0_1 (wrap64 (64-a1))),shl .u64 a0_1 a1)) else (none)) else (none))
def frac_gcd.l0:Nat→Int→Int→Int→Int→Int→Option (Int × Int)
 | 0,_,_,_,_,_=>none
 | k+1,x5,x199000,x199001,x200000,x200001=>(frac_wide_zero.f x200000 x200001).bind fun t208=>(if t208=true then ((frac_wide_up.f x199000 x199001 x5).bind fun bt209=>(some (bt209.1,bt209.2))) else ((frac_wide_twos.f x200000 x200001).bind fun t211=>((frac_wide_down.f x200000 x200001 t211).bind fun bt212=>((frac_wide_cmp.f x199000 x199001 bt212.1 bt212.2).bind fun t214=>(if t214>0 then ((frac_wide_minus.f x199000 x199001 bt212.1 bt212.2).bind fun bt215=>(frac_gcd.l0 k x5 bt212.1 bt212.2 bt215.1 bt215.2)) else ((frac_wide_minus.f bt212.1 bt212.2 x199000 x199001).bind fun bt217=>(frac_gcd.l0 k x5 x199000 x199001 bt217.1 bt217.2)))))))
def frac_gcd.f (k:Nat) (a0_0:Int) (a0_1:Int) (a1_0:Int) (a1_1:Int):Option (Int × Int):=(frac_wide_zero.f a0_0 a0_1).bind fun t201=>(if t201=true then (some (a1_0,a1_1)) else ((frac_wide_zero.f a1_0 a1_1).bind fun t202=>(if t202=true then (some (a0_0,a0_1)) else ((frac_wide_twos.f a0_0 a0_1).bind fun t203=>((frac_wide_twos.f a1_0 a1_1).bind fun t204=>((frac_wide_twos.f a0_0 a0_1).bind fun t205=>((frac_wide_down.f a0_0 a0_1 t205).bind fun bt206=>(frac_gcd.l0 k (mn t203 t204) bt206.1 bt206.2 a1_0 a1_1))))))))
def bits_Len64.f (a0:Int):Option Int:=if 0≤a0∧a0≤18446744073709551615 then some ((Lib.bitLen a0.toNat:Nat):Int) else none
def frac_wide_long.f (a0_0:Int) (a0_1:Int):Option (Int):=if a0_0=0 then ((bits_Len64.f a0_1).bind fun t220=>(some t220)) else ((bits_Len64.f a0_0).bind fun t221=>(some (wrap64 (64+t221))))
def frac_wide_over.l0:Nat→Int→Int→Int→Int→Int→Int→Int→Option (Int × Int)
 | 0,_,_,_,_,_,_,_=>none
 | k+1,x6,x223000,x223001,x224000,x224001,x226000,x226001=>if x6≥0 then ((frac_wide_up.f x226000 x226001 1).bind fun bt228=>((frac_wide_up.f x224000 x224001 x6).bind fun bt230=>((frac_wide_cmp.f bt230.1 bt230.2 x223000 x223001).bind fun t233=>(if t233≤0 then ((frac_wide_minus.f x223000 x223001 bt230.1 bt230.2).bind fun bt234=>(frac_wide_over.l0 k (wrap64 (x6-1)) bt234.1 bt234.2 x224000 x224001 bt228.1 (Go.bits .or .u64 bt228.2 1))) else (frac_wide_over.l0 k (wrap64 (x6-1)) x223000 x223001 x224000 x224001 bt228.1 bt228.2))))) else (some (x226000,x226001))
def frac_wide_over.f (k:Nat) (a0_0:Int) (a0_1:Int) (a1_0:Int) (a1_1:Int):Option (Int × Int):=(frac_wide_long.f a0_0 a0_1).bind fun t226=>((frac_wide_long.f a1_0 a1_1).bind fun t227=>(frac_wide_over.l0 k (wrap64 (t226-t227)) a0_0 a0_1 a1_0 a1_1 0 0))
def frac_signed_whole.f (a0_0:Bool) (a0_1:Int) (a0_2:Int):Option (Int × Bool):=if a0_1=0 then (if a0_0=true then (some (wrap64 (IntKind.u64.wrap (-a0_2)),decide (a0_2≤9223372036854775808))) else (some (wrap64 (a0_2),decide (a0_2<9223372036854775808)))) else (some (0,false))
def frac_reduced.f (k:Nat) (a0_0:Bool) (a0_1:Int) (a0_2:Int) (a1_0:Bool) (a1_1:Int) (a1_2:Int):Option (Int × Int × Int):=(frac_gcd.f k a0_1 a0_2 a1_1 a1_2).bind fun bt240=>((frac_wide_over.f k a0_1 a0_2 bt240.1 bt240.2).bind fun bt243=>((frac_wide_over.f k a1_1 a1_2 bt240.1 bt240.2).bind fun bt245=>((frac_signed_whole.f (a0_0 != a1_0) bt243.1 bt243.2).bind fun bt247=>((frac_signed_whole.f false bt245.1 bt245.2).bind fun bt249=>(if bt247.2=true then (if bt249.2=true then (some (bt247.1,bt249.1,0)) else (some (0,0,2))) else (some (0,0,2)))))))
def bits_Add64.f (a0:Int) (a1:Int) (a2:Int):Option (Int × Int):=if 0≤a0∧0≤a1∧0≤a2∧a2≤1 then some ((a0+a1+a2) % 18446744073709551616,(a0+a1+a2) / 18446744073709551616) else none
def frac_wide_plus.f (a0_0:Int) (a0_1:Int) (a1_0:Int) (a1_1:Int):Option (Int × Int):=(bits_Add64.f a0_1 a1_1 0).bind fun bt254=>((bits_Add64.f a0_0 a1_0 bt254.2).bind fun bt256=>(some (bt256.1,bt254.1)))
def frac_signed_plus.f (a0_0:Bool) (a0_1:Int) (a0_2:Int) (a1_0:Bool) (a1_1:Int) (a1_2:Int):Option (Bool × Int × Int):=if (a0_0==a1_0)=true then ((frac_wide_plus.f a0_1 a0_2 a1_1 a1_2).bind fun bt261=>(some (a0_0,bt261.1,bt261.2))) else ((frac_wide_cmp.f a0_1 a0_2 a1_1 a1_2).bind fun t263=>(if t263≥0 then ((frac_wide_minus.f a0_1 a0_2 a1_1 a1_2).bind fun bt264=>(some (a0_0,bt264.1,bt264.2))) else ((frac_wide_minus.f a1_1 a1_2 a0_1 a0_2).bind fun bt266=>(some (a1_0,bt266.1,bt266.2)))))
def frac_Add_1.f (a0_0:Bool) (a0_1:Int) (a0_2:Int):Option (Bool × Int × Int):=some (a0_0,a0_1,a0_2)
def frac_added_fn53.f (k:Nat) (a0_0:Int) (a0_1:Int) (a1_0:Int) (a1_1:Int):Option (Int × Int × Int):=(frac_norm.f k a0_0 a0_1).bind fun bt273=>((frac_norm.f k a1_0 a1_1).bind fun bt275=>((frac_sized.f bt273.1).bind fun bt277=>((frac_sized.f bt275.2).bind fun bt280=>((frac_signed_times.f bt277.1 bt277.2.1 bt277.2.2 bt280.1 bt280.2.1 bt280.2.2).bind fun bt283=>((frac_sized.f bt275.1).bind fun bt287=>((frac_sized.f bt273.2).bind fun bt290=>((frac_signed_times.f bt287.1 bt287.2.1 bt287.2.2 bt290.1 bt290.2.1 bt290.2.2).bind fun bt293=>((frac_Add_1.f bt293.1 bt293.2.1 bt293.2.2).bind fun bt296=>((frac_signed_plus.f bt283.1 bt283.2.1 bt283.2.2 bt296.1 bt296.2.1 bt296.2.2).bind fun bt300=>((frac_sized.f bt273.2).bind fun bt303=>((frac_sized.f bt275.2).bind fun bt306=>((frac_signed_times.f bt303.1 bt303.2.1 bt303.2.2 bt306.1 bt306.2.1 bt306.2.2).bind fun bt309=>((frac_reduced.f k bt300.1 bt300.2.1 bt300.2.2 bt309.1 bt309.2.1 bt309.2.2).bind fun bt312=>(some (bt312.1,bt312.2.1,bt312.2.2)))))))))))))))
def frac_Add.f (k:Nat) (a0_0:Int) (a0_1:Int) (a1_0:Int) (a1_1:Int):Option (Int × Int × Int):=(frac_added_fn53.f k a0_0 a0_1 a1_0 a1_1).bind fun bt318=>(some (bt318.1,bt318.2.1,bt318.2.2))
def frac_Sum.l0:Nat→List (S36)→Int→Int→Int→Int→Option (Int × Int × Int)
 | 0,_,_,_,_,_=>none
 | k+1,x10,x11,x12,x325000,x325001=>if x12<x11 then (if 0≤x12 then (if x12<(x10.length:Int) then ((frac_Add.f k x325000 x325001 ((rd_T36 x10 x12).f0) ((rd_T36 x10 x12).f1)).bind fun bt327=>(if bt327.2.2=0 then (frac_Sum.l0 k x10 x11 (wrap64 (x12+1)) bt327.1 bt327.2.1) else (some (0,0,bt327.2.2)))) else (none)) else (none)) else (some (x325000,x325001,0))
def frac_Sum.f (k:Nat) (l0:List (S36)):Option (Int × Int × Int):=(frac_nought.f).bind fun bt322=>(frac_Sum.l0 k l0 (l0.length:Int) 0 bt322.1 bt322.2)
def valid_Phase.f (a0_0:ByteArray) (l0_1:List (S96)) (l0_2:List (S98)) (l0_3:List (S61)) (l0_4:List (S33)) (l0_5:List (S100)) (a0_6:Int) (a1:ByteArray):Option Int:=if l0_3.length≤1000000000 then some (idxA (fun x=>x.f0.toList==a1.toList) l0_3) else none
def crit_ring.l0:Nat→List (S36)→List (S36)→List ByteArray→Int→Int→ByteArray→List (S96)→List (S98)→List (S61)→List (S33)→List (S100)→Int→Option (Int × Int × Int)
 | 0,_,_,_,_,_,_,_,_,_,_,_,_=>none
 | k+1,x2,x8,x13,x14,x15,x332000,x332001,x332002,x332003,x332004,x332005,x332006=>if x15<x14 then (if 0≤x15 then (if x15<(x13.length:Int) then ((valid_Phase.f x332000 x332001 x332002 x332003 x332004 x332005 x332006 (rdOf ByteArray.empty x13 x15)).bind fun t335=>(if t335≥0 then (if 0≤t335 then (if t335<(x2.length:Int) then (if x8.length<8796093022208 then (crit_ring.l0 k x2 (x8++[(⟨(rd_T36 x2 t335).f0,(rd_T36 x2 t335).f1⟩:S36)]) x13 x14 (wrap64 (x15+1)) x332000 x332001 x332002 x332003 x332004 x332005 x332006) else (none)) else (none)) else (none)) else (crit_ring.l0 k x2 x8 x13 x14 (wrap64 (x15+1)) x332000 x332001 x332002 x332003 x332004 x332005 x332006))) else (none)) else (none)) else ((frac_Sum.f k x8).bind fun bt340=>(some (bt340.1,bt340.2.1,bt340.2.2)))
def crit_ring.f (k:Nat) (a0_0:ByteArray) (l0_1:List (S96)) (l0_2:List (S98)) (l0_3:List (S61)) (l0_4:List (S33)) (l0_5:List (S100)) (a0_6:Int) (a1_0:Bool) (l1_1:List ByteArray) (l2:List (S36)):Option (Int × Int × Int):=crit_ring.l0 k l2 ([]:List (S36)) l1_1 (l1_1.length:Int) 0 a0_0 l0_1 l0_2 l0_3 l0_4 l0_5 a0_6
def whole_sign.j0:Nat→Int→Int→Bool→Option (Int)
 | 0,_,_,_=>none
 | k+1,x0,x1,x5=>if x5=true then (some 0) else (if ((decide (x0<0)) != (decide (x1<0)))=true then (some (-1)) else (some 1))
def whole_sign.f (k:Nat) (a0:Int) (a1:Int):Option (Int):=if a0=0 then (whole_sign.j0 k a0 a1 true) else (whole_sign.j0 k a0 a1 (a1==0))
def whole_product.f (a0:Int) (a1:Int):Option (Int × Int):=(whole_size.f a0).bind fun t344=>((whole_size.f a1).bind fun t345=>((bits_Mul64.f t344 t345).bind fun bt346=>(some (bt346.1,bt346.2))))
def whole_double_less.f (a0_0:Int) (a0_1:Int) (a1_0:Int) (a1_1:Int):Option (Bool):=if a0_0<a1_0 then (some true) else (if a0_0=a1_0 then (some (decide (a0_1<a1_1))) else (some false))
def whole_Compare.f (k:Nat) (a0:Int) (a1:Int) (a2:Int) (a3:Int):Option (Int):=(whole_sign.f k a0 a1).bind fun t350=>((whole_sign.f k a2 a3).bind fun t351=>((whole_product.f a0 a1).bind fun bt352=>((whole_product.f a2 a3).bind fun bt354=>(if t350=t351 then (if (bt352.1==bt354.1&&(bt352.2==bt354.2))=true then (some 0) else ((whole_double_less.f bt352.1 bt352.2 bt354.1 bt354.2).bind fun t358=>(if t358=true then (some (wrap64 (-t350))) else (some t350)))) else (some (mx (-1) (mn 1 (wrap64 (t350-t351)))))))))
def frac_Cmp.f (k:Nat) (a0_0:Int) (a0_1:Int) (a1_0:Int) (a1_1:Int):Option (Int):=(frac_norm.f k a0_0 a0_1).bind fun bt361=>((frac_norm.f k a1_0 a1_1).bind fun bt363=>((whole_Compare.f k bt361.1 bt363.2 bt363.1 bt361.2).bind fun t365=>(some t365)))
def crit_greatest.l0:Nat→List (S36)→Int→List (S36)→Int→Int→Option (Int)
 | 0,_,_,_,_,_=>none
 | k+1,x0,x3,x6,x7,x8=>if x8<x7 then (if 0≤x8 then (if x8<(x6.length:Int) then (if 0≤x3 then (if x3<(x0.length:Int) then ((frac_Cmp.f k ((rd_T36 x6 x8).f0) ((rd_T36 x6 x8).f1) ((rd_T36 x0 x3).f0) ((rd_T36 x0 x3).f1)).bind fun t369=>(if t369>0 then (crit_greatest.l0 k x0 x8 x6 x7 (wrap64 (x8+1))) else (crit_greatest.l0 k x0 x3 x6 x7 (wrap64 (x8+1))))) else (none)) else (none)) else (none)) else (none)) else (some x3)
def crit_greatest.f (k:Nat) (l0:List (S36)):Option (Int):=crit_greatest.l0 k l0 0 l0 (l0.length:Int) 0
def api_Group_fn18.f (l0:List (S33)):Option Bool:=if l0.length≤1000000000 then some (l0.any fun x=>x.f0.length==0) else none
mutual
def crit_Sum.j0:Nat→List (S36)→Bool→ByteArray→List (S96)→List (S98)→List (S61)→List (S33)→List (S100)→Int→Option (Int × Int × List Int × Int)
 | 0,_,_,_,_,_,_,_,_,_=>none
 | k+1,x1,x30,x371000,x371001,x371002,x371003,x371004,x371005,x371006=>if x30=true then (some (0,0,([]:List Int),1)) else (crit_Sum.l0 k x1 ([]:List (S36)) x371004 (x371004.length:Int) 0 x371000 x371001 x371002 x371003 x371004 x371005 x371006 0 0 ([]:List Int))
def crit_Sum.l0:Nat→List (S36)→List (S36)→List (S33)→Int→Int→ByteArray→List (S96)→List (S98)→List (S61)→List (S33)→List (S100)→Int→Int→Int→List Int→Option (Int × Int × List Int × Int)
 | 0,_,_,_,_,_,_,_,_,_,_,_,_,_,_,_=>none
 | k+1,x1,x8,x33,x34,x35,x371000,x371001,x371002,x371003,x371004,x371005,x371006,x374000,x374001,x374002=>if x35<x34 then (if 0≤x35 then (if x35<(x33.length:Int) then (if 0≤(((rd_T33 x33 x35).f0).length:Int) then (if ((((rd_T33 x33 x35).f0).length:Int):Int).toNat≤17592186044416 then (crit_Sum.l1 k x1 x8 (List.replicate ((((rd_T33 x33 x35).f0).length:Int):Int).toNat z36) x33 x34 x35 ((rd_T33 x33 x35).f0) (((rd_T33 x33 x35).f0).length:Int) 0 x371000 x371001 x371002 x371003 x371004 x371005 x371006 x374000 x374001 x374002) else (none)) else (none)) else (none)) else (none)) else ((frac_Sum.f k x8).bind fun bt374=>(if bt374.2.2=0 then (some (bt374.1,bt374.2.1,x374002,0)) else (some (0,0,([]:List Int),bt374.2.2))))
def crit_Sum.l1:Nat→List (S36)→List (S36)→List (S36)→List (S33)→Int→Int→List (S63)→Int→Int→ByteArray→List (S96)→List (S98)→List (S61)→List (S33)→List (S100)→Int→Int→Int→List Int→Option (Int × Int × List Int × Int)
 | 0,_,_,_,_,_,_,_,_,_,_,_,_,_,_,_,_,_,_,_=>none
 | k+1,x1,x8,x11,x33,x34,x35,x44,x45,x46,x371000,x371001,x371002,x371003,x371004,x371005,x371006,x374000,x374001,x374002=>if x46<x45 then (if 0≤x46 then (if x46<(x44.length:Int) then ((crit_ring.f k x371000 x371001 x371002 x371003 x371004 x371005 x371006 ((rd_T63 x44 x46).f0) ((rd_T63 x44 x46).f1) x1).bind fun bt385=>(if bt385.2.2=0 then (if x46<(x11.length:Int) then (crit_Sum.l1 k x1 x8 (x11.set (x46:Int).toNat (⟨bt385.1,bt385.2.1⟩:S36)) x33 x34 x35 x44 x45 (wrap64 (x46+1)) x371000 x371001 x371002 x371003 x371004 x371005 x371006 x374000 x374001 x374002) else (none)) else (some (0,0,([]:List Int),bt385.2.2)))) else (none)) else (none)) else ((crit_greatest.f k x11).bind fun t390=>((some (([t390]:List Int):List Int)).bind fun y391=>(if x374002.length+y391.length<17592186044416 then (if 0≤t390 then (if t390<(x11.length:Int) then ((some (([(⟨(rd_T36 x11 t390).f0,(rd_T36 x11 t390).f1⟩:S36)]:List (S36)):List (S36))).bind fun y398=>(if x8.length+y398.length<8796093022208 then (crit_Sum.l0 k x1 (x8++y398) x33 x34 (wrap64 (x35+1)) x371000 x371001 x371002 x371003 x371004 x371005 x371006 x374000 x374001 (x374002++y391)) else (none))) else (none)) else (none)) else (none))))
end
def crit_Sum.f (k:Nat) (a0_0:ByteArray) (l0_1:List (S96)) (l0_2:List (S98)) (l0_3:List (S61)) (l0_4:List (S33)) (l0_5:List (S100)) (a0_6:Int) (l1:List (S36)):Option (Int × Int × List Int × Int):=if (l1.length:Int)=(l0_3.length:Int) then ((api_Group_fn18.f l0_4).bind fun t372=>(crit_Sum.j0 k l1 t372 a0_0 l0_1 l0_2 l0_3 l0_4 l0_5 a0_6)) else (crit_Sum.j0 k l1 true a0_0 l0_1 l0_2 l0_3 l0_4 l0_5 a0_6)
def carrefourref01_Size.f (a0:Int):Option (Int):=if a0<0 then (some (IntKind.u64.wrap (-(IntKind.u64.wrap (a0))))) else (some (IntKind.u64.wrap (a0)))
def carrefourref02_gcd.l0:Nat→Int→Int→Option (Int)
 | 0,_,_=>none
 | k+1,x0,x1=>if x1=0 then (some x0) else (carrefourref02_gcd.l0 k x1 (Int.tmod x0 x1))
def carrefourref02_gcd.f (k:Nat) (a0:Int) (a1:Int):Option (Int):=carrefourref02_gcd.l0 k a0 a1
def carrefourref01_Signed.j0:Nat→Int→Bool→Bool→Option (Int × Int)
 | 0,_,_,_=>none
 | k+1,x0,x1,x10=>if x10=true then (some ((-9223372036854775808),0)) else (if x0>9223372036854775807 then (some (0,2)) else (if x1=true then (some (wrap64 (-(wrap64 (x0))),0)) else (some (wrap64 (x0),0))))
def carrefourref01_Signed.f (k:Nat) (a0:Int) (a1:Bool):Option (Int × Int):=if a0=9223372036854775808 then (carrefourref01_Signed.j0 k a0 a1 a1) else (carrefourref01_Signed.j0 k a0 a1 false)
def carrefourref02_made.f (k:Nat) (a0:Int) (a1:Int) (a2:Bool):Option (Int × Int × Int):=(carrefourref01_Signed.f k a0 a2).bind fun bt405=>((carrefourref01_Signed.f k a1 false).bind fun bt407=>(if bt405.2=0 then (if bt407.2=0 then (some (bt405.1,bt407.1,0)) else (some (0,0,2))) else (some (0,0,2))))
def carrefourref02_Of.f (k:Nat) (a0:Int) (a1:Int):Option (Int × Int × Int):=if a1=0 then (some (0,0,3)) else ((carrefourref01_Size.f a0).bind fun t410=>((carrefourref01_Size.f a1).bind fun t411=>((carrefourref02_gcd.f k t410 t411).bind fun t412=>(if t412=0 then (none) else (if a0=0 then ((carrefourref02_made.f k (IntKind.u64.wrap (Int.tdiv t410 t412)) (IntKind.u64.wrap (Int.tdiv t411 t412)) false).bind fun bt413=>(some (bt413.1,bt413.2.1,bt413.2.2))) else ((carrefourref02_made.f k (IntKind.u64.wrap (Int.tdiv t410 t412)) (IntKind.u64.wrap (Int.tdiv t411 t412)) ((decide (a0<0)) != (decide (a1<0)))).bind fun bt416=>(some (bt416.1,bt416.2.1,bt416.2.2))))))))
def carrefourlaw11_f.f (k:Nat) (a0:Int) (a1:Int):Option (Int × Int):=(carrefourref02_Of.f k a0 a1).bind fun bt420=>(some (bt420.1,bt420.2.1))
mutual
def crit_Rank.l0:Nat→List Int→List Int→Int→Int→ByteArray→List (S96)→List (S98)→List (S61)→List (S33)→List (S100)→Int→Option (List Int)
 | 0,_,_,_,_,_,_,_,_,_,_,_=>none
 | k+1,x7,x22,x23,x24,x425000,x425001,x425002,x425003,x425004,x425005,x425006=>if x24<x23 then (if 0≤x24 then (if x24<(x22.length:Int) then (if x24<(x425004.length:Int) then (if 0≤(rd x22 x24) then (if (rd x22 x24)<(((rd_T33 x425004 x24).f0).length:Int) then (crit_Rank.l1 k x7 x22 x23 x24 ((rd_T63 ((rd_T33 x425004 x24).f0) (rd x22 x24)).f1) (((rd_T63 ((rd_T33 x425004 x24).f0) (rd x22 x24)).f1).length:Int) 0 x425000 x425001 x425002 x425003 x425004 x425005 x425006) else (none)) else (none)) else (none)) else (none)) else (none)) else (some x7)
def crit_Rank.l1:Nat→List Int→List Int→Int→Int→List ByteArray→Int→Int→ByteArray→List (S96)→List (S98)→List (S61)→List (S33)→List (S100)→Int→Option (List Int)
 | 0,_,_,_,_,_,_,_,_,_,_,_,_,_,_=>none
 | k+1,x7,x22,x23,x24,x38,x39,x40,x425000,x425001,x425002,x425003,x425004,x425005,x425006=>if x40<x39 then (if 0≤x40 then (if x40<(x38.length:Int) then ((valid_Phase.f x425000 x425001 x425002 x425003 x425004 x425005 x425006 (rdOf ByteArray.empty x38 x40)).bind fun t436=>(if t436≥0 then (if x7.length<17592186044416 then (crit_Rank.l1 k (x7++[t436]) x22 x23 x24 x38 x39 (wrap64 (x40+1)) x425000 x425001 x425002 x425003 x425004 x425005 x425006) else (none)) else (crit_Rank.l1 k x7 x22 x23 x24 x38 x39 (wrap64 (x40+1)) x425000 x425001 x425002 x425003 x425004 x425005 x425006))) else (none)) else (none)) else (crit_Rank.l0 k x7 x22 x23 (wrap64 (x24+1)) x425000 x425001 x425002 x425003 x425004 x425005 x425006)
end
def crit_Rank.f (k:Nat) (a0_0:ByteArray) (l0_1:List (S96)) (l0_2:List (S98)) (l0_3:List (S61)) (l0_4:List (S33)) (l0_5:List (S100)) (a0_6:Int) (l1:List (S36)):Option (List Int):=(crit_Sum.f k a0_0 l0_1 l0_2 l0_3 l0_4 l0_5 a0_6 l1).bind fun bt425=>(if bt425.2.2.2=0 then (crit_Rank.l0 k ([]:List Int) bt425.2.2.1 (bt425.2.2.1.length:Int) 0 a0_0 l0_1 l0_2 l0_3 l0_4 l0_5 a0_6) else (some ([]:List Int)))
def carrefourlaw11_awake.f (k:Nat) :Option (Bool):=(some (([(⟨(⟨#[97]⟩:ByteArray),([]:List ByteArray),0⟩:S61),(⟨(⟨#[98]⟩:ByteArray),([]:List ByteArray),0⟩:S61),(⟨(⟨#[99]⟩:ByteArray),([]:List ByteArray),0⟩:S61),(⟨(⟨#[100]⟩:ByteArray),([]:List ByteArray),0⟩:S61)]:List (S61)):List (S61))).bind fun y440=>((some (([(⟨(([(⟨false,(([(⟨#[97]⟩:ByteArray),(⟨#[98]⟩:ByteArray)]:List ByteArray))⟩:S63),(⟨false,(([(⟨#[99]⟩:ByteArray)]:List ByteArray))⟩:S63)]:List (S63)))⟩:S33),(⟨(([(⟨false,(([(⟨#[100]⟩:ByteArray)]:List ByteArray))⟩:S63)]:List (S63)))⟩:S33)]:List (S33)):List (S33))).bind fun y458=>((carrefourlaw11_f.f k 1 4).bind fun bt462=>((carrefourlaw11_f.f k 1 5).bind fun bt464=>((carrefourlaw11_f.f k 2 5).bind fun bt466=>((carrefourlaw11_f.f k 1 10).bind fun bt468=>((some (([(⟨bt462.1,bt462.2⟩:S36),(⟨bt464.1,bt464.2⟩:S36),(⟨bt466.1,bt466.2⟩:S36),(⟨bt468.1,bt468.2⟩:S36)]:List (S36)):List (S36))).bind fun y470=>((crit_Sum.f k (⟨#[]⟩:ByteArray) ([]:List (S96)) ([]:List (S98)) y440 y458 ([]:List (S100)) 0 y470).bind fun bt473=>((crit_Rank.f k (⟨#[]⟩:ByteArray) ([]:List (S96)) ([]:List (S98)) y440 y458 ([]:List (S100)) 0 y470).bind fun t480=>(if bt473.2.2.2=0 then ((carrefourlaw11_f.f k 11 20).bind fun bt483=>(if (bt473.1==bt483.1&&(bt473.2.1==bt483.2))=true then (if (bt473.2.2.1.length:Int)=2 then (if 0<(bt473.2.2.1.length:Int) then (if (rd bt473.2.2.1 0)=0 then (if (t480.length:Int)=3 then (if 2<(t480.length:Int) then (some ((rd t480 2)==3)) else (none)) else (some false)) else (some false)) else (none)) else (some false)) else (some false))) else (some false))))))))))
mutual
def carrefourlaw11_ways.l0:Nat→Int→List (List Int)→List (List Int)→Int→ByteArray→List (S96)→List (S98)→List (S61)→List (S33)→List (S100)→Int→Option ((List (List Int)))
 | 0,_,_,_,_,_,_,_,_,_,_,_=>none
 | k+1,x1,x5,x6,x7,x488000,x488001,x488002,x488003,x488004,x488005,x488006=>if 0≤x1 then (if x1<(x488004.length:Int) then (if x7<(((rd_T33 x488004 x1).f0).length:Int) then (carrefourlaw11_ways.l1 k x1 x5 x6 x7 0 x488000 x488001 x488002 x488003 x488004 x488005 x488006) else (some x6)) else (none)) else (none)
def carrefourlaw11_ways.l1:Nat→Int→List (List Int)→List (List Int)→Int→Int→ByteArray→List (S96)→List (S98)→List (S61)→List (S33)→List (S100)→Int→Option ((List (List Int)))
 | 0,_,_,_,_,_,_,_,_,_,_,_,_=>none
 | k+1,x1,x5,x6,x7,x8,x488000,x488001,x488002,x488003,x488004,x488005,x488006=>if x8<(x5.length:Int) then (if (x6.length:Int)<100 then ((some (([x7]:List Int):List Int)).bind fun y498=>(if 0≤x8 then (if y498.length+(rd_L19 x5 x8).length<17592186044416 then (if x6.length<5864062014805 then (carrefourlaw11_ways.l1 k x1 x5 (x6++[(y498++(rd_L19 x5 x8))]) x7 (wrap64 (x8+1)) x488000 x488001 x488002 x488003 x488004 x488005 x488006) else (none)) else (none)) else (none))) else (carrefourlaw11_ways.l0 k x1 x5 x6 (wrap64 (x7+1)) x488000 x488001 x488002 x488003 x488004 x488005 x488006)) else (carrefourlaw11_ways.l0 k x1 x5 x6 (wrap64 (x7+1)) x488000 x488001 x488002 x488003 x488004 x488005 x488006)
def carrefourlaw11_ways.f:Nat→ByteArray→List (S96)→List (S98)→List (S61)→List (S33)→List (S100)→Int→Int→Option ((List (List Int)))
 | 0,_,_,_,_,_,_,_,_=>none
 | k+1,a0_0,l0_1,l0_2,l0_3,l0_4,l0_5,a0_6,a1=>if a1≥(l0_4.length:Int) then (some (([(([]:List Int))]:List (List Int)))) else ((carrefourlaw11_ways.f k a0_0 l0_1 l0_2 l0_3 l0_4 l0_5 a0_6 (wrap64 (a1+1))).bind fun t494=>(carrefourlaw11_ways.l0 k a1 t494 ([]:List (List Int)) 0 a0_0 l0_1 l0_2 l0_3 l0_4 l0_5 a0_6))
end
def carrefourref07_Phase.l0:Nat→ByteArray→Int→ByteArray→List (S96)→List (S98)→List (S61)→List (S33)→List (S100)→Int→Option (Int)
 | 0,_,_,_,_,_,_,_,_,_=>none
 | k+1,x1,x5,x509000,x509001,x509002,x509003,x509004,x509005,x509006=>if x5<(x509003.length:Int) then (if 0≤x5 then (if ((rd_T61 x509003 x5).f0).toList=x1.toList then (some x5) else (carrefourref07_Phase.l0 k x1 (wrap64 (x5+1)) x509000 x509001 x509002 x509003 x509004 x509005 x509006)) else (none)) else (some (-1))
def carrefourref07_Phase.f (k:Nat) (a0_0:ByteArray) (l0_1:List (S96)) (l0_2:List (S98)) (l0_3:List (S61)) (l0_4:List (S33)) (l0_5:List (S100)) (a0_6:Int) (a1:ByteArray):Option (Int):=carrefourref07_Phase.l0 k a1 0 a0_0 l0_1 l0_2 l0_3 l0_4 l0_5 a0_6
mutual
def carrefourref11_Way.l0:Nat→List Int→List Int→Int→ByteArray→List (S96)→List (S98)→List (S61)→List (S33)→List (S100)→Int→Option (List Int)
 | 0,_,_,_,_,_,_,_,_,_,_=>none
 | k+1,x1,x5,x6,x511000,x511001,x511002,x511003,x511004,x511005,x511006=>if x6<(x511004.length:Int) then (carrefourref11_Way.j1 k x1 x5 x6 (decide (x6<(x1.length:Int))) x511000 x511001 x511002 x511003 x511004 x511005 x511006) else (carrefourref11_Way.j1 k x1 x5 x6 false x511000 x511001 x511002 x511003 x511004 x511005 x511006)
def carrefourref11_Way.j1:Nat→List Int→List Int→Int→Bool→ByteArray→List (S96)→List (S98)→List (S61)→List (S33)→List (S100)→Int→Option (List Int)
 | 0,_,_,_,_,_,_,_,_,_,_,_=>none
 | k+1,x1,x5,x6,x20,x511000,x511001,x511002,x511003,x511004,x511005,x511006=>if x20=true then (if 0≤x6 then (if x6<(x511004.length:Int) then (if x6<(x1.length:Int) then (if 0≤(rd x1 x6) then (if (rd x1 x6)<(((rd_T33 x511004 x6).f0).length:Int) then (carrefourref11_Way.l1 k x1 x5 x6 0 x511000 x511001 x511002 x511003 x511004 x511005 x511006 ((rd_T63 ((rd_T33 x511004 x6).f0) (rd x1 x6)).f0) ((rd_T63 ((rd_T33 x511004 x6).f0) (rd x1 x6)).f1)) else (none)) else (none)) else (none)) else (none)) else (none)) else (some x5)
def carrefourref11_Way.l1:Nat→List Int→List Int→Int→Int→ByteArray→List (S96)→List (S98)→List (S61)→List (S33)→List (S100)→Int→Bool→List ByteArray→Option (List Int)
 | 0,_,_,_,_,_,_,_,_,_,_,_,_,_=>none
 | k+1,x1,x5,x6,x8,x511000,x511001,x511002,x511003,x511004,x511005,x511006,x515000,x515001=>if x8<(x515001.length:Int) then (if 0≤x8 then ((carrefourref07_Phase.f k x511000 x511001 x511002 x511003 x511004 x511005 x511006 (rdOf ByteArray.empty x515001 x8)).bind fun t516=>(if t516≥0 then (if x5.length<17592186044416 then (carrefourref11_Way.l1 k x1 (x5++[t516]) x6 (wrap64 (x8+1)) x511000 x511001 x511002 x511003 x511004 x511005 x511006 x515000 x515001) else (none)) else (carrefourref11_Way.l1 k x1 x5 x6 (wrap64 (x8+1)) x511000 x511001 x511002 x511003 x511004 x511005 x511006 x515000 x515001))) else (none)) else (carrefourref11_Way.l0 k x1 x5 (wrap64 (x6+1)) x511000 x511001 x511002 x511003 x511004 x511005 x511006)
end
def carrefourref11_Way.f (k:Nat) (a0_0:ByteArray) (l0_1:List (S96)) (l0_2:List (S98)) (l0_3:List (S61)) (l0_4:List (S33)) (l0_5:List (S100)) (a0_6:Int) (l1:List Int):Option (List Int):=carrefourref11_Way.l0 k l1 ([]:List Int) 0 a0_0 l0_1 l0_2 l0_3 l0_4 l0_5 a0_6
def carrefourref02_Right.f (k:Nat) (a0_0:Int) (a0_1:Int):Option (Bool):=if a0_1≥1 then ((carrefourref01_Size.f a0_0).bind fun t521=>((carrefourref02_gcd.f k t521 (IntKind.u64.wrap (a0_1))).bind fun t522=>(some (t522==1)))) else (some false)
def carrefourref02_Norm.f (k:Nat) (a0_0:Int) (a0_1:Int):Option (Int × Int):=(carrefourref02_Right.f k a0_0 a0_1).bind fun t525=>(if t525=true then (some (a0_0,a0_1)) else (some (0,1)))
def carrefourref02_few.f (a0_0:Int) (a0_1:Int) (a1_0:Int) (a1_1:Int):Option (Bool):=(carrefourref01_Size.f a0_0).bind fun t528=>(if t528<1073741824 then ((carrefourref01_Size.f a1_0).bind fun t529=>(if t529<1073741824 then (if a0_1<1073741824 then (some (decide (a1_1<1073741824))) else (some false)) else (some false))) else (some false))
def carrefourref02_trim.l0:Nat→List Int→Int→Option (List Int)
 | 0,_,_=>none
 | k+1,x0,x3=>if x3>0 then (if 0≤(wrap64 (x3-1)) then (if (wrap64 (x3-1))<(x0.length:Int) then (if (rd x0 (wrap64 (x3-1)))=0 then (carrefourref02_trim.l0 k x0 (wrap64 (x3-1))) else ((some (([]:List Int):List Int)).bind fun y531=>(if 0≤x3 then (if x3≤(x0.length:Int) then (if y531.length+(x0.take (x3:Int).toNat).length<17592186044416 then (some (y531++(x0.take (x3:Int).toNat))) else (none)) else (none)) else (none)))) else (none)) else (none)) else ((some (([]:List Int):List Int)).bind fun y538=>(if 0≤x3 then (if x3≤(x0.length:Int) then (if y538.length+(x0.take (x3:Int).toNat).length<17592186044416 then (some (y538++(x0.take (x3:Int).toNat))) else (none)) else (none)) else (none)))
def carrefourref02_trim.f (k:Nat) (l0:List Int):Option (List Int):=carrefourref02_trim.l0 k l0 (l0.length:Int)
mutual
def carrefourref01_Plus.l0:Nat→List Int→List Int→List Int→Int→Int→Option (List Int)
 | 0,_,_,_,_,_=>none
 | k+1,x0,x1,x5,x6,x7=>if x7<(x0.length:Int) then (carrefourref01_Plus.j1 k x0 x1 x5 x6 x7 true) else (if x7<(x1.length:Int) then (carrefourref01_Plus.j1 k x0 x1 x5 x6 x7 true) else (carrefourref01_Plus.j1 k x0 x1 x5 x6 x7 (decide (x6>0))))
def carrefourref01_Plus.j1:Nat→List Int→List Int→List Int→Int→Int→Bool→Option (List Int)
 | 0,_,_,_,_,_,_=>none
 | k+1,x0,x1,x5,x6,x7,x22=>if x22=true then (if x7<(x0.length:Int) then (if 0≤x7 then (if x7<(x1.length:Int) then (if x5.length<17592186044416 then (carrefourref01_Plus.l0 k x0 x1 (x5++[Int.tmod (IntKind.u64.wrap ((IntKind.u64.wrap (x6+(rd x0 x7)))+(rd x1 x7))) 65536]) (IntKind.u64.wrap (Int.tdiv (IntKind.u64.wrap ((IntKind.u64.wrap (x6+(rd x0 x7)))+(rd x1 x7))) 65536)) (wrap64 (x7+1))) else (none)) else (if x5.length<17592186044416 then (carrefourref01_Plus.l0 k x0 x1 (x5++[Int.tmod (IntKind.u64.wrap (x6+(rd x0 x7))) 65536]) (IntKind.u64.wrap (Int.tdiv (IntKind.u64.wrap (x6+(rd x0 x7))) 65536)) (wrap64 (x7+1))) else (none))) else (none)) else (if x7<(x1.length:Int) then (if 0≤x7 then (if x5.length<17592186044416 then (carrefourref01_Plus.l0 k x0 x1 (x5++[Int.tmod (IntKind.u64.wrap (x6+(rd x1 x7))) 65536]) (IntKind.u64.wrap (Int.tdiv (IntKind.u64.wrap (x6+(rd x1 x7))) 65536)) (wrap64 (x7+1))) else (none)) else (none)) else (if x5.length<17592186044416 then (carrefourref01_Plus.l0 k x0 x1 (x5++[Int.tmod x6 65536]) (IntKind.u64.wrap (Int.tdiv x6 65536)) (wrap64 (x7+1))) else (none)))) else (some x5)
end
def carrefourref01_Plus.f (k:Nat) (l0:List Int) (l1:List Int):Option (List Int):=carrefourref01_Plus.l0 k l0 l1 ([]:List Int) 0 0
def carrefourref01_Parts.l0:Nat→Int→List Int→Int→Option (List Int)
 | 0,_,_,_=>none
 | k+1,x0,x3,x4=>if x4<4 then (if x3.length<17592186044416 then (carrefourref01_Parts.l0 k (IntKind.u64.wrap (Int.tdiv x0 65536)) (x3++[Int.tmod x0 65536]) (wrap64 (x4+1))) else (none)) else (some x3)
def carrefourref01_Parts.f (k:Nat) (a0:Int):Option (List Int):=carrefourref01_Parts.l0 k a0 ([]:List Int) 0
mutual
def carrefourref01_Times.l0:Nat→List Int→List Int→List Int→Int→Option (List Int)
 | 0,_,_,_,_=>none
 | k+1,x5,x6,x7,x8=>if x8<4 then (if 0≤x8 then (if (x8:Int).toNat≤35184372088832 then (carrefourref01_Times.l1 k x5 x6 x7 x8 (List.replicate (x8:Int).toNat 0) 0 0) else (none)) else (none)) else (some x7)
def carrefourref01_Times.l1:Nat→List Int→List Int→List Int→Int→List Int→Int→Int→Option (List Int)
 | 0,_,_,_,_,_,_,_=>none
 | k+1,x5,x6,x7,x8,x9,x10,x11=>if x11<4 then (if 0≤x8 then (if x8<(x5.length:Int) then (if 0≤x11 then (if x11<(x6.length:Int) then (if x9.length<17592186044416 then (carrefourref01_Times.l1 k x5 x6 x7 x8 (x9++[Int.tmod (IntKind.u64.wrap ((IntKind.u64.wrap ((rd x5 x8)*(rd x6 x11)))+x10)) 65536]) (IntKind.u64.wrap (Int.tdiv (IntKind.u64.wrap ((IntKind.u64.wrap ((rd x5 x8)*(rd x6 x11)))+x10)) 65536)) (wrap64 (x11+1))) else (none)) else (none)) else (none)) else (none)) else (none)) else (if x9.length<17592186044416 then ((carrefourref01_Plus.f k x7 (x9++[x10])).bind fun t580=>(carrefourref01_Times.l0 k x5 x6 t580 (wrap64 (x8+1)))) else (none))
end
def carrefourref01_Times.f (k:Nat) (a0:Int) (a1:Int):Option (List Int):=(carrefourref01_Parts.f k a0).bind fun t563=>((carrefourref01_Parts.f k a1).bind fun t566=>(carrefourref01_Times.l0 k t563 t566 ([]:List Int) 0))
mutual
def carrefourref01_Order.l0:Nat→List Int→List Int→Int→Option (Int)
 | 0,_,_,_=>none
 | k+1,x0,x1,x6=>if x6≥0 then (if x6<(x0.length:Int) then (if 0≤x6 then (carrefourref01_Order.j1 k x0 x1 x6 (rd x0 x6) 0) else (none)) else (carrefourref01_Order.j1 k x0 x1 x6 0 0)) else (some 0)
def carrefourref01_Order.j1:Nat→List Int→List Int→Int→Int→Int→Option (Int)
 | 0,_,_,_,_,_=>none
 | k+1,x0,x1,x6,x7,x8=>if x6<(x1.length:Int) then (if 0≤x6 then (carrefourref01_Order.j2 k x0 x1 x6 x7 (rd x1 x6)) else (none)) else (carrefourref01_Order.j2 k x0 x1 x6 x7 x8)
def carrefourref01_Order.j2:Nat→List Int→List Int→Int→Int→Int→Option (Int)
 | 0,_,_,_,_,_=>none
 | k+1,x0,x1,x6,x7,x8=>if x7<x8 then (some (-1)) else (if x7>x8 then (some 1) else (carrefourref01_Order.l0 k x0 x1 (wrap64 (x6-1))))
end
def carrefourref01_Order.f (k:Nat) (l0:List Int) (l1:List Int):Option (Int):=carrefourref01_Order.l0 k l0 l1 (wrap64 ((mx (l0.length:Int) (l1.length:Int))-1))
def carrefourref01_Minus.l0:Nat→List Int→List Int→List Int→Int→Int→Option (List Int)
 | 0,_,_,_,_,_=>none
 | k+1,x0,x1,x5,x6,x7=>if x7<(x0.length:Int) then (if x7<(x1.length:Int) then (if 0≤x7 then (if (rd x0 x7)≥(IntKind.u64.wrap (x6+(rd x1 x7))) then (if x5.length<17592186044416 then (carrefourref01_Minus.l0 k x0 x1 (x5++[IntKind.u64.wrap ((rd x0 x7)-(IntKind.u64.wrap (x6+(rd x1 x7))))]) 0 (wrap64 (x7+1))) else (none)) else (if x5.length<17592186044416 then (carrefourref01_Minus.l0 k x0 x1 (x5++[IntKind.u64.wrap ((IntKind.u64.wrap ((rd x0 x7)+65536))-(IntKind.u64.wrap (x6+(rd x1 x7))))]) 1 (wrap64 (x7+1))) else (none))) else (none)) else (if 0≤x7 then (if (rd x0 x7)≥x6 then (if x5.length<17592186044416 then (carrefourref01_Minus.l0 k x0 x1 (x5++[IntKind.u64.wrap ((rd x0 x7)-x6)]) 0 (wrap64 (x7+1))) else (none)) else (if x5.length<17592186044416 then (carrefourref01_Minus.l0 k x0 x1 (x5++[IntKind.u64.wrap ((IntKind.u64.wrap ((rd x0 x7)+65536))-x6)]) 1 (wrap64 (x7+1))) else (none))) else (none))) else (some x5)
def carrefourref01_Minus.f (k:Nat) (l0:List Int) (l1:List Int):Option (List Int):=carrefourref01_Minus.l0 k l0 l1 ([]:List Int) 0 0
def carrefourref02_twice.f (k:Nat) (l0:List Int):Option (List Int):=(carrefourref01_Plus.f k l0 l0).bind fun t604=>(some t604)
mutual
def carrefourref02_rest.l0:Nat→List Int→List (List Int)→List Int→Option (List Int)
 | 0,_,_,_=>none
 | k+1,x0,x5,x6=>(carrefourref01_Order.f k x6 x0).bind fun t607=>(if t607≤0 then (if x5.length<5864062014805 then ((carrefourref02_twice.f k x6).bind fun t611=>(carrefourref02_rest.l0 k x0 (x5++[x6]) t611)) else (none)) else (carrefourref02_rest.l1 k x0 x5 (wrap64 ((x5.length:Int)-1))))
def carrefourref02_rest.l1:Nat→List Int→List (List Int)→Int→Option (List Int)
 | 0,_,_,_=>none
 | k+1,x0,x5,x7=>if x7≥0 then (if 0≤x7 then (if x7<(x5.length:Int) then ((carrefourref01_Order.f k (rd_L21 x5 x7) x0).bind fun t615=>(if t615≤0 then ((carrefourref01_Minus.f k x0 (rd_L21 x5 x7)).bind fun t617=>((carrefourref02_trim.f k t617).bind fun t620=>(carrefourref02_rest.l1 k t620 x5 (wrap64 (x7-1))))) else (carrefourref02_rest.l1 k x0 x5 (wrap64 (x7-1))))) else (none)) else (none)) else (some x0)
end
def carrefourref02_rest.f (k:Nat) (l0:List Int) (l1:List Int):Option (List Int):=carrefourref02_rest.l0 k l0 ([]:List (List Int)) l1
mutual
def carrefourref02_divided.l0:Nat→List Int→Int→List (List Int)→List Int→Option (Int × Bool)
 | 0,_,_,_,_=>none
 | k+1,x0,x6,x7,x8=>(carrefourref01_Order.f k x8 x0).bind fun t623=>(if t623≤0 then (if x7.length<5864062014805 then ((carrefourref02_twice.f k x8).bind fun t627=>(carrefourref02_divided.l0 k x0 x6 (x7++[x8]) t627)) else (none)) else (if (x7.length:Int)>64 then (some (0,false)) else (carrefourref02_divided.l1 k x0 x6 x7 (wrap64 ((x7.length:Int)-1)))))
def carrefourref02_divided.l1:Nat→List Int→Int→List (List Int)→Int→Option (Int × Bool)
 | 0,_,_,_,_=>none
 | k+1,x0,x6,x7,x9=>if x9≥0 then (if 0≤x9 then (if x9<(x7.length:Int) then ((carrefourref01_Order.f k (rd_L21 x7 x9) x0).bind fun t631=>(if t631≤0 then ((carrefourref01_Minus.f k x0 (rd_L21 x7 x9)).bind fun t633=>((carrefourref02_trim.f k t633).bind fun t636=>(carrefourref02_divided.l1 k t636 (IntKind.u64.wrap ((IntKind.u64.wrap (x6*2))+1)) x7 (wrap64 (x9-1))))) else (carrefourref02_divided.l1 k x0 (IntKind.u64.wrap (x6*2)) x7 (wrap64 (x9-1))))) else (none)) else (none)) else (some (x6,true))
end
def carrefourref02_divided.f (k:Nat) (l0:List Int) (l1:List Int):Option (Int × Bool):=carrefourref02_divided.l0 k l0 0 ([]:List (List Int)) l1
def carrefourref02_lowest.l0:Nat→List Int→List Int→Bool→List Int→List Int→Option (Int × Int × Int)
 | 0,_,_,_,_,_=>none
 | k+1,x0,x1,x2,x8,x9=>(carrefourref01_Order.f k x9 ([]:List Int)).bind fun t640=>(if t640=0 then ((carrefourref02_divided.f k x0 x8).bind fun bt644=>((carrefourref02_divided.f k x1 x8).bind fun bt646=>(if bt644.2=true then (if bt646.2=true then (if x2=true then ((carrefourref02_made.f k bt644.1 bt646.1 (bt644.1 != 0)).bind fun bt648=>(some (bt648.1,bt648.2.1,bt648.2.2))) else ((carrefourref02_made.f k bt644.1 bt646.1 false).bind fun bt651=>(some (bt651.1,bt651.2.1,bt651.2.2)))) else (some (0,0,2))) else (some (0,0,2))))) else ((carrefourref02_rest.f k x8 x9).bind fun t641=>(carrefourref02_lowest.l0 k x0 x1 x2 x9 t641)))
def carrefourref02_lowest.f (k:Nat) (l0:List Int) (l1:List Int) (a2:Bool):Option (Int × Int × Int):=carrefourref02_lowest.l0 k l0 l1 a2 l0 l1
def carrefourref02_Add.f (k:Nat) (a0_0:Int) (a0_1:Int) (a1_0:Int) (a1_1:Int):Option (Int × Int × Int):=(carrefourref02_Norm.f k a0_0 a0_1).bind fun bt657=>((carrefourref02_Norm.f k a1_0 a1_1).bind fun bt659=>((carrefourref02_few.f bt657.1 bt657.2 bt659.1 bt659.2).bind fun t661=>(if t661=true then ((carrefourref02_Of.f k (wrap64 ((wrap64 (bt657.1*bt659.2))+(wrap64 (bt659.1*bt657.2)))) (wrap64 (bt657.2*bt659.2))).bind fun bt662=>(some (bt662.1,bt662.2.1,bt662.2.2))) else ((carrefourref01_Size.f bt657.1).bind fun t665=>((carrefourref01_Times.f k t665 (IntKind.u64.wrap (bt659.2))).bind fun t666=>((carrefourref02_trim.f k t666).bind fun t669=>((carrefourref01_Size.f bt659.1).bind fun t672=>((carrefourref01_Times.f k t672 (IntKind.u64.wrap (bt657.2))).bind fun t673=>((carrefourref02_trim.f k t673).bind fun t676=>((carrefourref01_Times.f k (IntKind.u64.wrap (bt657.2)) (IntKind.u64.wrap (bt659.2))).bind fun t679=>((carrefourref02_trim.f k t679).bind fun t682=>(if ((decide (bt657.1<0))==(decide (bt659.1<0)))=true then ((carrefourref01_Plus.f k t669 t676).bind fun t685=>((carrefourref02_trim.f k t685).bind fun t688=>((carrefourref02_lowest.f k t688 t682 (decide (bt657.1<0))).bind fun bt691=>(some (bt691.1,bt691.2.1,bt691.2.2))))) else ((carrefourref01_Order.f k t669 t676).bind fun t694=>(if t694≥0 then ((carrefourref01_Minus.f k t669 t676).bind fun t695=>((carrefourref02_trim.f k t695).bind fun t698=>((carrefourref02_lowest.f k t698 t682 (decide (bt657.1<0))).bind fun bt701=>(some (bt701.1,bt701.2.1,bt701.2.2))))) else ((carrefourref01_Minus.f k t676 t669).bind fun t704=>((carrefourref02_trim.f k t704).bind fun t707=>((carrefourref02_lowest.f k t707 t682 (decide (bt659.1<0))).bind fun bt710=>(some (bt710.1,bt710.2.1,bt710.2.2)))))))))))))))))))
def carrefourref02_Sum.l0:Nat→List (S36)→Int→Int→Int→Option (Int × Int × Int)
 | 0,_,_,_,_=>none
 | k+1,x0,x5,x715000,x715001=>if x5<(x0.length:Int) then (if 0≤x5 then ((carrefourref02_Add.f k x715000 x715001 ((rd_T36 x0 x5).f0) ((rd_T36 x0 x5).f1)).bind fun bt716=>(if bt716.2.2=0 then (carrefourref02_Sum.l0 k x0 (wrap64 (x5+1)) bt716.1 bt716.2.1) else (some (0,0,bt716.2.2)))) else (none)) else (some (x715000,x715001,0))
def carrefourref02_Sum.f (k:Nat) (l0:List (S36)):Option (Int × Int × Int):=carrefourref02_Sum.l0 k l0 0 0 1
def carrefourref01_sign.j0:Nat→Int→Int→Bool→Option (Int)
 | 0,_,_,_=>none
 | k+1,x0,x1,x10=>if x10=true then (some 0) else (if ((decide (x0<0)) != (decide (x1<0)))=true then (some (-1)) else (some 1))
def carrefourref01_sign.f (k:Nat) (a0:Int) (a1:Int):Option (Int):=if a0=0 then (carrefourref01_sign.j0 k a0 a1 true) else (carrefourref01_sign.j0 k a0 a1 (a1==0))
def carrefourref01_Compare.j0:Nat→Int→Int→Int→Int→Int→Bool→Option (Int)
 | 0,_,_,_,_,_,_=>none
 | k+1,x0,x1,x2,x3,x9,x40=>if x40=true then (if (wrap64 (x0*x1))<(wrap64 (x2*x3)) then (some (-1)) else (if (wrap64 (x0*x1))>(wrap64 (x2*x3)) then (some 1) else (some 0))) else ((carrefourref01_Size.f x0).bind fun t726=>((carrefourref01_Size.f x1).bind fun t727=>((carrefourref01_Times.f k t726 t727).bind fun t728=>((carrefourref01_Size.f x2).bind fun t731=>((carrefourref01_Size.f x3).bind fun t732=>((carrefourref01_Times.f k t731 t732).bind fun t733=>((carrefourref01_Order.f k t728 t733).bind fun t736=>(some (wrap64 (x9*t736))))))))))
def carrefourref01_Compare.f (k:Nat) (a0:Int) (a1:Int) (a2:Int) (a3:Int):Option (Int):=(carrefourref01_sign.f k a0 a1).bind fun t720=>((carrefourref01_sign.f k a2 a3).bind fun t721=>(if t720<t721 then (some (-1)) else (if t720>t721 then (some 1) else ((carrefourref01_Size.f a0).bind fun t722=>(if t722<2147483648 then ((carrefourref01_Size.f a1).bind fun t723=>(if t723<2147483648 then ((carrefourref01_Size.f a2).bind fun t724=>(if t724<2147483648 then ((carrefourref01_Size.f a3).bind fun t725=>(carrefourref01_Compare.j0 k a0 a1 a2 a3 t720 (decide (t725<2147483648)))) else (carrefourref01_Compare.j0 k a0 a1 a2 a3 t720 false))) else (carrefourref01_Compare.j0 k a0 a1 a2 a3 t720 false))) else (carrefourref01_Compare.j0 k a0 a1 a2 a3 t720 false))))))
def carrefourref02_Cmp.f (k:Nat) (a0_0:Int) (a0_1:Int) (a1_0:Int) (a1_1:Int):Option (Int):=(carrefourref02_Norm.f k a0_0 a0_1).bind fun bt739=>((carrefourref02_Norm.f k a1_0 a1_1).bind fun bt741=>((carrefourref01_Compare.f k bt739.1 bt741.2 bt741.1 bt739.2).bind fun t743=>(some t743)))
mutual
def carrefourlaw11_CritMost.j0:Nat→List (S36)→Bool→ByteArray→List (S96)→List (S98)→List (S61)→List (S33)→List (S100)→Int→Option (Bool)
 | 0,_,_,_,_,_,_,_,_,_=>none
 | k+1,x1,x25,x745000,x745001,x745002,x745003,x745004,x745005,x745006=>if x25=true then (some true) else (carrefourlaw11_CritMost.l0 k x1 0 x745000 x745001 x745002 x745003 x745004 x745005 x745006)
def carrefourlaw11_CritMost.l0:Nat→List (S36)→Int→ByteArray→List (S96)→List (S98)→List (S61)→List (S33)→List (S100)→Int→Option (Bool)
 | 0,_,_,_,_,_,_,_,_,_=>none
 | k+1,x1,x5,x745000,x745001,x745002,x745003,x745004,x745005,x745006=>if x5<(x745004.length:Int) then (if 0≤x5 then (if (((rd_T33 x745004 x5).f0).length:Int)>2 then ((carrefourlaw11_awake.f k).bind fun t747=>(some t747)) else (carrefourlaw11_CritMost.l0 k x1 (wrap64 (x5+1)) x745000 x745001 x745002 x745003 x745004 x745005 x745006)) else (none)) else ((crit_Sum.f k x745000 x745001 x745002 x745003 x745004 x745005 x745006 x1).bind fun bt748=>(if bt748.2.2.2=0 then ((carrefourlaw11_ways.f k x745000 x745001 x745002 x745003 x745004 x745005 x745006 0).bind fun t756=>(carrefourlaw11_CritMost.l1 k x1 t756 false 0 x745000 x745001 x745002 x745003 x745004 x745005 x745006 bt748.1 bt748.2.1 bt748.2.2.1)) else ((carrefourlaw11_awake.f k).bind fun t755=>(some t755))))
def carrefourlaw11_CritMost.l1:Nat→List (S36)→List (List Int)→Bool→Int→ByteArray→List (S96)→List (S98)→List (S61)→List (S33)→List (S100)→Int→Int→Int→List Int→Option (Bool)
 | 0,_,_,_,_,_,_,_,_,_,_,_,_,_,_=>none
 | k+1,x1,x8,x9,x10,x745000,x745001,x745002,x745003,x745004,x745005,x745006,x755000,x755001,x755002=>if x10<(x8.length:Int) then (if 0≤x10 then ((carrefourref11_Way.f k x745000 x745001 x745002 x745003 x745004 x745005 x745006 (rd_L19 x8 x10)).bind fun t761=>(carrefourlaw11_CritMost.l2 k x1 x8 x9 x10 t761 ([]:List (S36)) 0 x745000 x745001 x745002 x745003 x745004 x745005 x745006 x755000 x755001 x755002)) else (none)) else (if x9=true then ((carrefourlaw11_awake.f k).bind fun t759=>(some t759)) else (some false))
def carrefourlaw11_CritMost.l2:Nat→List (S36)→List (List Int)→Bool→Int→List Int→List (S36)→Int→ByteArray→List (S96)→List (S98)→List (S61)→List (S33)→List (S100)→Int→Int→Int→List Int→Option (Bool)
 | 0,_,_,_,_,_,_,_,_,_,_,_,_,_,_,_,_,_=>none
 | k+1,x1,x8,x9,x10,x11,x12,x13,x745000,x745001,x745002,x745003,x745004,x745005,x745006,x755000,x755001,x755002=>if x13<(x11.length:Int) then (if 0≤x13 then (if 0≤(rd x11 x13) then (if (rd x11 x13)<(x1.length:Int) then (if x12.length<8796093022208 then (carrefourlaw11_CritMost.l2 k x1 x8 x9 x10 x11 (x12++[(⟨(rd_T36 x1 (rd x11 x13)).f0,(rd_T36 x1 (rd x11 x13)).f1⟩:S36)]) (wrap64 (x13+1)) x745000 x745001 x745002 x745003 x745004 x745005 x745006 x755000 x755001 x755002) else (none)) else (none)) else (none)) else (none)) else ((carrefourref02_Sum.f k x12).bind fun bt769=>(if bt769.2.2=0 then ((carrefourref02_Cmp.f k bt769.1 bt769.2.1 x755000 x755001).bind fun t773=>(if t773>0 then (some false) else (if x9=true then (carrefourlaw11_CritMost.l1 k x1 x8 true (wrap64 (x10+1)) x745000 x745001 x745002 x745003 x745004 x745005 x745006 x755000 x755001 x755002) else (carrefourlaw11_CritMost.l1 k x1 x8 (bt769.1==x755000&&(bt769.2.1==x755001)) (wrap64 (x10+1)) x745000 x745001 x745002 x745003 x745004 x745005 x745006 x755000 x755001 x755002)))) else (carrefourlaw11_CritMost.l1 k x1 x8 true (wrap64 (x10+1)) x745000 x745001 x745002 x745003 x745004 x745005 x745006 x755000 x755001 x755002)))
end
def carrefourlaw11_CritMost.f (k:Nat) (a0_0:ByteArray) (l0_1:List (S96)) (l0_2:List (S98)) (l0_3:List (S61)) (l0_4:List (S33)) (l0_5:List (S100)) (a0_6:Int) (l1:List (S36)):Option (Bool):=(carrefourlaw11_few.f k a0_0 l0_1 l0_2 l0_3 l0_4 l0_5 a0_6 l1).bind fun t745=>(if t745=true then (carrefourlaw11_CritMost.j0 k l1 (decide ((l0_4.length:Int)>5)) a0_0 l0_1 l0_2 l0_3 l0_4 l0_5 a0_6) else (carrefourlaw11_CritMost.j0 k l1 true a0_0 l0_1 l0_2 l0_3 l0_4 l0_5 a0_6))
end Go.Proofs.YtenphnkiacfmiaaDoor.X
