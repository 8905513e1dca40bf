/- How the parameters of the law CritGrows read: as the kinds of the walks.
   Conditions: none. -/
import Derived.Test.YtenphnkiacfmiaaDoorXRead
import Derived.Test.YtenphnkiacfmiaaDoorX0
import Derived.KernelRfl
namespace Go.Proofs.YtenphnkiacfmiaaDoor.X
open Go.RowKit Go.Proofs.YtenphnkiacfmiaaDoorW.PrintWords Go.Proofs.YtenphnkiacfmiaaDoorW.PrintLast Go.Proofs.YtenphnkiacfmiaaDoorW.PrintMore
set_option linter.unusedVariables false
set_option maxRecDepth 100000
namespace KCritGrows
theorem rk9:Rk Tryd.prog 9 Kd.string (fun s=>s.size≤maxLen):=Rk.string Tryd.underlying9
theorem rk2:Rk Tryd.prog 2 (Kd.int .i64) (fun n=>(Lit.int .i64 n).wf=true):=Rk.int Tryd.underlying2
def F36 (x:S36):Prop:=((Lit.int .i64 x.f0).wf=true)∧((Lit.int .i64 x.f1).wf=true)
theorem rk36:Rk Tryd.prog 36 k36 F36:=Rk.struct (fun x:S36=>(x.f0,x.f1)) (fun p=>⟨p.1,p.2⟩) Tryd.underlying36 (by kernel_rfl) (RkL.cons (by kernel_rfl) rk2 (by kernel_rfl) (RkL.one (by kernel_rfl) rk2)) (fun _=>rfl)
theorem rk3:Rk Tryd.prog 3 (Kd.int .i64) (fun n=>(Lit.int .i64 n).wf=true):=Rk.int Tryd.underlying3
def F96 (x:S96):Prop:=(x.f0.size≤maxLen)∧((Lit.int .i64 x.f1).wf=true)∧((Lit.int .i64 x.f2).wf=true)∧(F36 x.f3)∧((Lit.int .i64 x.f4).wf=true)∧((Lit.int .i64 x.f5).wf=true)∧((Lit.int .i64 x.f6).wf=true)∧((Lit.int .i64 x.f7).wf=true)∧((Lit.int .i64 x.f8).wf=true)∧((Lit.int .i64 x.f9).wf=true)
theorem rk96:Rk Tryd.prog 96 k96 F96:=Rk.struct (fun x:S96=>(x.f0,x.f1,x.f2,x.f3,x.f4,x.f5,x.f6,x.f7,x.f8,x.f9)) (fun p=>⟨p.1,p.2.1,p.2.2.1,p.2.2.2.1,p.2.2.2.2.1,p.2.2.2.2.2.1,p.2.2.2.2.2.2.1,p.2.2.2.2.2.2.2.1,p.2.2.2.2.2.2.2.2.1,p.2.2.2.2.2.2.2.2.2⟩) Tryd.underlying96 (by kernel_rfl) (RkL.cons (by kernel_rfl) rk9 (by kernel_rfl) (RkL.cons (by kernel_rfl) rk2 (by kernel_rfl) (RkL.cons (by kernel_rfl) rk2 (by kernel_rfl) (RkL.cons (by kernel_rfl) rk36 (by kernel_rfl) (RkL.cons (by kernel_rfl) rk2 (by kernel_rfl) (RkL.cons (by kernel_rfl) rk2 (by kernel_rfl) (RkL.cons (by kernel_rfl) rk2 (by kernel_rfl) (RkL.cons (by kernel_rfl) rk2 (by kernel_rfl) (RkL.cons (by kernel_rfl) rk2 (by kernel_rfl) (RkL.one (by kernel_rfl) rk3)))))))))) (fun _=>rfl)
theorem rk22:Rk Tryd.prog 22 (Kd.slice 96 k96) (fun l=>l.length≤maxLen∧∀ a∈l,F96 a):=Rk.slice Tryd.underlying22 (by kernel_rfl) rk96
def F98 (x:S98):Prop:=(x.f0.size≤maxLen)∧(x.f1.size≤maxLen)∧((Lit.int .i64 x.f2).wf=true)∧((Lit.int .i64 x.f3).wf=true)∧((Lit.int .i64 x.f4).wf=true)∧((Lit.int .i64 x.f5).wf=true)
theorem rk98:Rk Tryd.prog 98 k98 F98:=Rk.struct (fun x:S98=>(x.f0,x.f1,x.f2,x.f3,x.f4,x.f5)) (fun p=>⟨p.1,p.2.1,p.2.2.1,p.2.2.2.1,p.2.2.2.2.1,p.2.2.2.2.2⟩) Tryd.underlying98 (by kernel_rfl) (RkL.cons (by kernel_rfl) rk9 (by kernel_rfl) (RkL.cons (by kernel_rfl) rk9 (by kernel_rfl) (RkL.cons (by kernel_rfl) rk2 (by kernel_rfl) (RkL.cons (by kernel_rfl) rk2 (by kernel_rfl) (RkL.cons (by kernel_rfl) rk2 (by kernel_rfl) (RkL.one (by kernel_rfl) rk3)))))) (fun _=>rfl)
theorem rk23:Rk Tryd.prog 23 (Kd.slice 98 k98) (fun l=>l.length≤maxLen∧∀ a∈l,F98 a):=Rk.slice Tryd.underlying23 (by kernel_rfl) rk98
theorem rk59:Rk Tryd.prog 59 (Kd.slice 9 Kd.string) (fun l=>l.length≤maxLen∧∀ a∈l,(fun s=>s.size≤maxLen) a):=Rk.slice Tryd.underlying59 (by kernel_rfl) rk9
def F61 (x:S61):Prop:=(x.f0.size≤maxLen)∧((fun l=>l.length≤maxLen∧∀ a∈l,(fun s=>s.size≤maxLen) a) x.f1)∧((Lit.int .i64 x.f2).wf=true)
theorem rk61:Rk Tryd.prog 61 k61 F61:=Rk.struct (fun x:S61=>(x.f0,x.f1,x.f2)) (fun p=>⟨p.1,p.2.1,p.2.2⟩) Tryd.underlying61 (by kernel_rfl) (RkL.cons (by kernel_rfl) rk9 (by kernel_rfl) (RkL.cons (by kernel_rfl) rk59 (by kernel_rfl) (RkL.one (by kernel_rfl) rk3))) (fun _=>rfl)
theorem rk24:Rk Tryd.prog 24 (Kd.slice 61 k61) (fun l=>l.length≤maxLen∧∀ a∈l,F61 a):=Rk.slice Tryd.underlying24 (by kernel_rfl) rk61
theorem rk4:Rk Tryd.prog 4 Kd.bool (fun _=>True):=Rk.bool Tryd.underlying4
def F63 (x:S63):Prop:=(True)∧((fun l=>l.length≤maxLen∧∀ a∈l,(fun s=>s.size≤maxLen) a) x.f1)
theorem rk63:Rk Tryd.prog 63 k63 F63:=Rk.struct (fun x:S63=>(x.f0,x.f1)) (fun p=>⟨p.1,p.2⟩) Tryd.underlying63 (by kernel_rfl) (RkL.cons (by kernel_rfl) rk4 (by kernel_rfl) (RkL.one (by kernel_rfl) rk59)) (fun _=>rfl)
theorem rk31:Rk Tryd.prog 31 (Kd.slice 63 k63) (fun l=>l.length≤maxLen∧∀ a∈l,F63 a):=Rk.slice Tryd.underlying31 (by kernel_rfl) rk63
def F33 (x:S33):Prop:=((fun l=>l.length≤maxLen∧∀ a∈l,F63 a) x.f0)
theorem rk33:Rk Tryd.prog 33 k33 F33:=Rk.struct (fun x:S33=>x.f0) (fun p=>⟨p⟩) Tryd.underlying33 (by kernel_rfl) (RkL.one (by kernel_rfl) rk31) (fun _=>rfl)
theorem rk25:Rk Tryd.prog 25 (Kd.slice 33 k33) (fun l=>l.length≤maxLen∧∀ a∈l,F33 a):=Rk.slice Tryd.underlying25 (by kernel_rfl) rk33
def F100 (x:S100):Prop:=(x.f0.size≤maxLen)∧(x.f1.size≤maxLen)∧((Lit.int .i64 x.f2).wf=true)
theorem rk100:Rk Tryd.prog 100 k100 F100:=Rk.struct (fun x:S100=>(x.f0,x.f1,x.f2)) (fun p=>⟨p.1,p.2.1,p.2.2⟩) Tryd.underlying100 (by kernel_rfl) (RkL.cons (by kernel_rfl) rk9 (by kernel_rfl) (RkL.cons (by kernel_rfl) rk9 (by kernel_rfl) (RkL.one (by kernel_rfl) rk3))) (fun _=>rfl)
theorem rk26:Rk Tryd.prog 26 (Kd.slice 100 k100) (fun l=>l.length≤maxLen∧∀ a∈l,F100 a):=Rk.slice Tryd.underlying26 (by kernel_rfl) rk100
def F28P (x:(ByteArray × (List S96) × (List S98) × (List S61) × (List S33) × (List S100) × Int)):Prop:=(x.1.size≤maxLen)∧((fun l=>l.length≤maxLen∧∀ a∈l,F96 a) x.2.1)∧((fun l=>l.length≤maxLen∧∀ a∈l,F98 a) x.2.2.1)∧((fun l=>l.length≤maxLen∧∀ a∈l,F61 a) x.2.2.2.1)∧((fun l=>l.length≤maxLen∧∀ a∈l,F33 a) x.2.2.2.2.1)∧((fun l=>l.length≤maxLen∧∀ a∈l,F100 a) x.2.2.2.2.2.1)∧(Lit.int .i64 x.2.2.2.2.2.2).wf=true
theorem rk28P:Rk Tryd.prog 28 (Kd.pair Kd.string (Kd.pair (Kd.slice 96 k96) (Kd.pair (Kd.slice 98 k98) (Kd.pair (Kd.slice 61 k61) (Kd.pair (Kd.slice 33 k33) (Kd.pair (Kd.slice 100 k100) (Kd.int .i64))))))) F28P:=Rk.structP Tryd.underlying28 (by kernel_rfl) (RkL.cons (by kernel_rfl) rk9 (by kernel_rfl) (RkL.cons (by kernel_rfl) rk22 (by kernel_rfl) (RkL.cons (by kernel_rfl) rk23 (by kernel_rfl) (RkL.cons (by kernel_rfl) rk24 (by kernel_rfl) (RkL.cons (by kernel_rfl) rk25 (by kernel_rfl) (RkL.cons (by kernel_rfl) rk26 (by kernel_rfl) (RkL.one (by kernel_rfl) rk3)))))))
theorem rk29:Rk Tryd.prog 29 (Kd.slice 36 k36) (fun l=>l.length≤maxLen∧∀ a∈l,F36 a):=Rk.slice Tryd.underlying29 (by kernel_rfl) rk36
end KCritGrows
end Go.Proofs.YtenphnkiacfmiaaDoor.X
