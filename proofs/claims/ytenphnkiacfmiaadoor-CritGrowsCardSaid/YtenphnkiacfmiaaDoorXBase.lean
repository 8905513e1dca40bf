/- What the walks of this place lean on beside the printed words: a call of a function that the model stands in for, as one step; the table of math/bits in its variable.
   Conditions: none beyond what each theorem's head says. -/
import Derived.Test.YtenphnkiacfmiaaDoorProg
import Derived.Laws.Externs
import Derived.Laws.Bits64b
import Derived.Lib.TrailingZeros
import Derived.Lib.BitFns
import Derived.WalkKit
import Derived.KernelRfl
import Derived.Below
import Derived.Test.YtenphnkiacfmiaaDoorV
namespace Go.Proofs.YtenphnkiacfmiaaDoor.X
open Go.RowKit Go.Proofs.YtenphnkiacfmiaaDoorW.PrintWords Go.Proofs.YtenphnkiacfmiaaDoorW.PrintLast Go.Proofs.YtenphnkiacfmiaaDoorW.PrintMore
section
variable {P:Program} {ops:Array Oper} {Q:Exit→Act→World→Prop}
def XCalls (P:Program) (f:FuncId) (args:Array Value) (w:World) (R:Ending→World→Prop):Prop :=
 ∃ v,(callFunc f args).run P w=.ok (.value v) w∧R (.returned v) w
theorem XCalls.mono {f:FuncId} {args:Array Value} {w:World} {R R':Ending→World→Prop} (h:XCalls P f args w R) (k:∀ e w',R e w'→R' e w'):XCalls P f args w R':=by
 obtain ⟨v,h1,h2⟩:=h
 exact ⟨v,h1,k _ _ h2⟩
theorem goesX_ {rest:List Oper} {oi:Oper} {a:Act} {w:World} (N:Option Tmp) (hd:oi.dst=N) (hg:oi.guard=none) {f:FuncId} {ars:Array Operand} {ts:Array TypeId} (args:Array Value)
  (hop:oi.op=.call { callee:=.value (.func f),args:=ars,argTypes:=ts }) (hargs:ars.map a.eval=args)
  (h:XCalls P f args w fun e w'=>∃ v,e=.returned v∧wpList P ops Q rest (a.put N v) w'):wpList P ops Q (oi::rest) a w:=by
 refine wpList_plain hg fun K hK=>?_
 obtain ⟨v,hv,v',hv',hk⟩:=h
 cases hv'
 have hrun:(execOp a.eval oi).run P w=.ok (.value v) w:=by
  unfold execOp
  simp [hop,resolve,Deferred.ofValue,invoke,Act.eval,hargs,hv]
 unfold Oper.wp
 rw [hrun,Oper.upon_value]
 subst hd
 exact hK _ _ hk
theorem gate_tmp {rest:List Oper} {o:Oper} {a:Act} {w:World} {t:Tmp} {ars:Array Operand} {ts:Array TypeId} (_ho:o.op=.call { callee:=.value (.tmp t),args:=ars,argTypes:=ts }) (h:wpList P ops Q (o::rest) a w):wpList P ops Q (o::rest) a w:=h
theorem goesC_ {rest : List Oper} {oi : Oper} {a : Act} {w : World} (N : Option Tmp) (hd : oi.dst = N) (hg : oi.guard = none) {f : FuncId} {fn : Func} {t : Tmp} {ars : Array Operand} {ts : Array TypeId} (hf : P.funcs[f]? = some fn) (hname : (fn.name == "runtime.NumGoroutine") = false) (hb : fn.body.isSome = true) (args cap : Array Value)
  (hop:oi.op=.call { callee:=.value (.tmp t),args:=ars,argTypes:=ts }) (hargs:ars.map a.eval=args) (hcal:a.eval (.tmp t)=.func (.func f) #[] cap)
  (h:Calls P f (args++cap) w fun e w'=>∃ v,e=.returned v∧wpList P ops Q rest (a.put N v) w'):wpList P ops Q (oi::rest) a w:=by
 refine wpList_plain hg fun K hK=>?_
 have he:=enters_ hf hname hb (args++cap) w
 have hrun:(execOp a.eval oi).run P w=.ok (.enter f (args++cap)) w:=by
  unfold execOp
  simp [hop,resolve,hcal,Deferred.ofValue,invoke,hargs,he]
 unfold Oper.wp
 rw [hrun,Oper.upon_enter]
 refine h.mono fun e w'' hh=>?_
 obtain ⟨v,rfl,hk⟩:=hh
 subst hd
 exact hK _ _ hk
theorem goesU_ {oi : Oper} {N : Option Tmp} {a : Act} {w : World} {K : Act → World → Prop} {f : FuncId} {fn : Func} {t : Tmp} {ars : Array Operand} {ts : Array TypeId} (hf : P.funcs[f]? = some fn) (hname : (fn.name == "runtime.NumGoroutine") = false) (hb : fn.body.isSome = true) (args : Array Value)
  (hw:Region.wanted oi (yielded ops a.tmps)=true) (hN:oi.dst=N) (hop:oi.op=.call { callee:=.value (.tmp t),args:=ars,argTypes:=ts }) (hcal:a.eval (.tmp t)=.func (.func f) #[] #[]) (hargs:ars.map a.eval=args)
  (h:Calls P f args w fun e w'=>∃ v,e=.returned v∧K (a.put N v) w'):if Region.wanted oi (yielded ops a.tmps)=true then Oper.wp P oi a w K Q else K (a.put N undef) w:=by
 refine call_ f args hw hN ?_ h
 have he:=enters_ hf hname hb args w
 unfold execOp
 simp [hop,resolve,hcal,Deferred.ofValue,invoke,hargs,he]
end
section
variable {w W W1:World} {g g':Nat} {o:Obj}
theorem bb (h:Aside0 (w.heap[g]?=some o)) (hb:Below W.heap.size W W1) (ht:w.heap[g]?=some o→W.heap[g]?=some o:=by (intro h;(with_reducible repeat (first|refine blk_drewN ?_ _|refine blk_drew ?_|refine blk_alloc ?_ _|refine blk_far ?_ (Aside0.out (by assumption)) _));exact h)):Aside0 (W1.heap[g]?=some o):=⟨blk_below (ht h.out) hb⟩
theorem bl (h:Aside0 (w.heap[g]?=some o)) (hg:g'=W.heap.size) (ht:w.heap[g]?=some o→W.heap[g]?=some o:=by (intro h;(with_reducible repeat (first|refine blk_drewN ?_ _|refine blk_drew ?_|refine blk_alloc ?_ _|refine blk_far ?_ (Aside0.out (by assumption)) _));exact h)):Aside0 (g≠g'):=⟨by rw [hg];exact Nat.ne_of_lt (blk_lt (ht h.out))⟩
theorem bg (h:Aside0 (w.heap[g]?=some o)) (hg:g'=W.heap.size) (ht:w.heap[g]?=some o→W.heap[g]?=some o:=by (intro h;(with_reducible repeat (first|refine blk_drewN ?_ _|refine blk_drew ?_|refine blk_alloc ?_ _|refine blk_far ?_ (Aside0.out (by assumption)) _));exact h)):Aside0 (g'≠g):=⟨by rw [hg];exact Nat.ne_of_gt (blk_lt (ht h.out))⟩
theorem bs {w0:World} (h:Aside0 (Below w0.heap.size w0 w)) (hb:Below W.heap.size W W1) (ht:Below w0.heap.size w0 w→Below w0.heap.size w0 W:=by (intro h;(repeat (first|(with_reducible first|exact h|apply below_alloc|apply pw_below_drewN|apply below_drew1|refine below_set ?_ (Aside0.out (by assumption)))|exact h)))):Aside0 (Below w0.heap.size w0 W1):=⟨below_step (ht h.out) hb⟩
theorem bz {w0:World} (h:Aside0 (Below w0.heap.size w0 w)) (hg:g=W.heap.size) (ht:Below w0.heap.size w0 w→Below w0.heap.size w0 W:=by (intro h;(repeat (first|(with_reducible first|exact h|apply below_alloc|apply pw_below_drewN|apply below_drew1|refine below_set ?_ (Aside0.out (by assumption)))|exact h)))):Aside0 (w0.heap.size≤g):=⟨by rw [hg];exact below_size (ht h.out)⟩
theorem re_ {α:Type} {d:Kd α} {e:TypeId} {base:Nat} {ok:Nat→Prop} {u v:Value} {xs:List α} (h:Aside0 (d.R e w base ok u xs)) (hbase:∀ k,v.ownBlock=some k→W.heap.size≤k) (hb:Below W.heap.size W W1) (ht:d.R e w base ok u xs→d.R e W base ok u xs:=by (intro h;(with_reducible repeat (first|apply Kd.R_alloc|apply Kd.R_drewN|apply Kd.R_drew));exact h)):Aside0 (d.R e W1 base (fun k=>ok k∧some k≠v.ownBlock) u xs):=⟨Kd.R_elder' (ht h.out) hbase hb⟩
theorem rb {α:Type} {d:Kd α} {e:TypeId} {base:Nat} {ok:Nat→Prop} {v:Value} {xs:List α} (h:Aside0 (d.R e w base ok v xs)) (hb:Below W.heap.size W W1) (ht:d.R e w base ok v xs→d.R e W base ok v xs:=by (intro h;(with_reducible repeat (first|apply Kd.R_alloc|apply Kd.R_drewN|apply Kd.R_drew));exact h)):Aside0 (d.R e W1 base ok v xs):=⟨Kd.R_below (ht h.out) hb⟩
theorem rl {α:Type} {d:Kd α} {e:TypeId} {base:Nat} {ok:Nat→Prop} {v:Value} {xs:List α} (h:Aside0 (d.R e w base ok v xs)) (ht:d.R e w base ok v xs→d.R e W base ok v xs:=by (intro h;(with_reducible repeat (first|apply Kd.R_alloc|apply Kd.R_drewN|apply Kd.R_drew));exact h)):∀ k,v.ownBlock=some k→k<W.heap.size:=Kd.R_lt (ht h.out)
theorem cl_ {α:Type} {d:Kd α} {A:Option Addr} {n m:Nat} {xs:List α} (e:n=m) (h:d.C w A n xs):d.C w A m xs:=e▸h
theorem bx (h:Aside0 (w.heap[g]?=some o)) (ht:w.heap[g]?=some o→W.heap[g]?=some o:=by (intro h;(with_reducible repeat (first|refine blk_drewN ?_ _|refine blk_drew ?_|refine blk_alloc ?_ _|refine blk_far ?_ (Aside0.out (by assumption)) _));exact h)):W.heap[g]?=some o:=ht h.out
theorem bd (h:w.heap[g]?=some o) (ht:w.heap[g]?=some o→W.heap[g]?=some o:=by (intro h;(with_reducible repeat (first|refine blk_drewN ?_ _|refine blk_drew ?_|refine blk_alloc ?_ _|refine blk_far ?_ (Aside0.out (by assumption)) _));exact h)):W.heap[g]?=some o:=ht h
theorem bf {w0:World} (h:Aside0 (Below w0.heap.size w0 w)) (ht:Below w0.heap.size w0 w→Below w0.heap.size w0 W:=by (intro h;(repeat (first|(with_reducible first|exact h|apply below_alloc|apply pw_below_drewN|apply below_drew1|refine below_set ?_ (Aside0.out (by assumption)))|exact h)))):Below w0.heap.size w0 W:=ht h.out
theorem ag {α:Type} {x y:α} (h:x=y:=by ((try simp only [List.map_toArray,List.map_cons,List.map_nil]);first|done|rfl|(simp only [List.length_drop,List.length_take];rfl))):x=y:=h
theorem si {α:Type} (xs:List α) (i:Nat) (a:α):xs.toArray.setIfInBounds i a=(xs.set i a).toArray:=List.setIfInBounds_toArray ..
theorem s0 {α:Type} (x:α) (xs:List α) (a:α):(x::xs).set 0 a=a::xs:=rfl
theorem s1 {α:Type} (x:α) (xs:List α) (i:Nat) (a:α):(x::xs).set (i+1) a=x::xs.set i a:=rfl
theorem rc {α:Type} {d:Kd α} {e:TypeId} {base:Nat} {ok:Nat→Prop} {A:Option Addr} {n c:Nat} {xs:List α} (h:Aside0 (d.R e w base ok (.slice A n c) xs)) (ht:d.C w A xs.length xs→d.C W A xs.length xs:=by (intro h;(with_reducible repeat (first|exact h|refine Kd.C_alloc ?_ _|refine Kd.C_drewN ?_ _|refine Kd.C_drew ?_)))):d.C W A xs.length xs:=ht (Kd.R_reads' h.out).2.2
end
section
variable {w w1 W:World} {g g':Nat} {t:TypeId}
theorem k1 {v0:Value} (h:Aside0 (w.heap[g]?=some (.cells #[v0] t (0,0)))):w.cell? ⟨g,0,none⟩=some v0∧w.frozen? ⟨g,0,none⟩=false:=⟨(blk_cell h.out 0).trans rfl,blk_frozen h.out 0⟩
theorem k2 {v0 v1:Value} (h:Aside0 (w.heap[g]?=some (.cells #[v0,v1] t (0,0)))):w.cell? ⟨g,0,none⟩=some v0∧w.cell? ⟨g,1,none⟩=some v1∧w.frozen? ⟨g,0,none⟩=false∧w.frozen? ⟨g,1,none⟩=false:=⟨(blk_cell h.out 0).trans rfl,(blk_cell h.out 1).trans rfl,blk_frozen h.out 0,blk_frozen h.out 1⟩
theorem k3 {v0 v1 v2:Value} (h:Aside0 (w.heap[g]?=some (.cells #[v0,v1,v2] t (0,0)))):w.cell? ⟨g,0,none⟩=some v0∧w.cell? ⟨g,1,none⟩=some v1∧w.cell? ⟨g,2,none⟩=some v2∧w.frozen? ⟨g,0,none⟩=false∧w.frozen? ⟨g,1,none⟩=false∧w.frozen? ⟨g,2,none⟩=false:=⟨(blk_cell h.out 0).trans rfl,(blk_cell h.out 1).trans rfl,(blk_cell h.out 2).trans rfl,blk_frozen h.out 0,blk_frozen h.out 1,blk_frozen h.out 2⟩
theorem k4 {v0 v1 v2 v3:Value} (h:Aside0 (w.heap[g]?=some (.cells #[v0,v1,v2,v3] t (0,0)))):w.cell? ⟨g,0,none⟩=some v0∧w.cell? ⟨g,1,none⟩=some v1∧w.cell? ⟨g,2,none⟩=some v2∧w.cell? ⟨g,3,none⟩=some v3∧w.frozen? ⟨g,0,none⟩=false∧w.frozen? ⟨g,1,none⟩=false∧w.frozen? ⟨g,2,none⟩=false∧w.frozen? ⟨g,3,none⟩=false:=⟨(blk_cell h.out 0).trans rfl,(blk_cell h.out 1).trans rfl,(blk_cell h.out 2).trans rfl,(blk_cell h.out 3).trans rfl,blk_frozen h.out 0,blk_frozen h.out 1,blk_frozen h.out 2,blk_frozen h.out 3⟩
theorem k5 {v0 v1 v2 v3 v4:Value} (h:Aside0 (w.heap[g]?=some (.cells #[v0,v1,v2,v3,v4] t (0,0)))):w.cell? ⟨g,0,none⟩=some v0∧w.cell? ⟨g,1,none⟩=some v1∧w.cell? ⟨g,2,none⟩=some v2∧w.cell? ⟨g,3,none⟩=some v3∧w.cell? ⟨g,4,none⟩=some v4∧w.frozen? ⟨g,0,none⟩=false∧w.frozen? ⟨g,1,none⟩=false∧w.frozen? ⟨g,2,none⟩=false∧w.frozen? ⟨g,3,none⟩=false∧w.frozen? ⟨g,4,none⟩=false:=⟨(blk_cell h.out 0).trans rfl,(blk_cell h.out 1).trans rfl,(blk_cell h.out 2).trans rfl,(blk_cell h.out 3).trans rfl,(blk_cell h.out 4).trans rfl,blk_frozen h.out 0,blk_frozen h.out 1,blk_frozen h.out 2,blk_frozen h.out 3,blk_frozen h.out 4⟩
theorem k6 {v0 v1 v2 v3 v4 v5:Value} (h:Aside0 (w.heap[g]?=some (.cells #[v0,v1,v2,v3,v4,v5] t (0,0)))):w.cell? ⟨g,0,none⟩=some v0∧w.cell? ⟨g,1,none⟩=some v1∧w.cell? ⟨g,2,none⟩=some v2∧w.cell? ⟨g,3,none⟩=some v3∧w.cell? ⟨g,4,none⟩=some v4∧w.cell? ⟨g,5,none⟩=some v5∧w.frozen? ⟨g,0,none⟩=false∧w.frozen? ⟨g,1,none⟩=false∧w.frozen? ⟨g,2,none⟩=false∧w.frozen? ⟨g,3,none⟩=false∧w.frozen? ⟨g,4,none⟩=false∧w.frozen? ⟨g,5,none⟩=false:=⟨(blk_cell h.out 0).trans rfl,(blk_cell h.out 1).trans rfl,(blk_cell h.out 2).trans rfl,(blk_cell h.out 3).trans rfl,(blk_cell h.out 4).trans rfl,(blk_cell h.out 5).trans rfl,blk_frozen h.out 0,blk_frozen h.out 1,blk_frozen h.out 2,blk_frozen h.out 3,blk_frozen h.out 4,blk_frozen h.out 5⟩
theorem k7 {v0 v1 v2 v3 v4 v5 v6:Value} (h:Aside0 (w.heap[g]?=some (.cells #[v0,v1,v2,v3,v4,v5,v6] t (0,0)))):w.cell? ⟨g,0,none⟩=some v0∧w.cell? ⟨g,1,none⟩=some v1∧w.cell? ⟨g,2,none⟩=some v2∧w.cell? ⟨g,3,none⟩=some v3∧w.cell? ⟨g,4,none⟩=some v4∧w.cell? ⟨g,5,none⟩=some v5∧w.cell? ⟨g,6,none⟩=some v6∧w.frozen? ⟨g,0,none⟩=false∧w.frozen? ⟨g,1,none⟩=false∧w.frozen? ⟨g,2,none⟩=false∧w.frozen? ⟨g,3,none⟩=false∧w.frozen? ⟨g,4,none⟩=false∧w.frozen? ⟨g,5,none⟩=false∧w.frozen? ⟨g,6,none⟩=false:=⟨(blk_cell h.out 0).trans rfl,(blk_cell h.out 1).trans rfl,(blk_cell h.out 2).trans rfl,(blk_cell h.out 3).trans rfl,(blk_cell h.out 4).trans rfl,(blk_cell h.out 5).trans rfl,(blk_cell h.out 6).trans rfl,blk_frozen h.out 0,blk_frozen h.out 1,blk_frozen h.out 2,blk_frozen h.out 3,blk_frozen h.out 4,blk_frozen h.out 5,blk_frozen h.out 6⟩
theorem k9 {v0 v1 v2 v3 v4 v5 v6 v7 v8:Value} (h:Aside0 (w.heap[g]?=some (.cells #[v0,v1,v2,v3,v4,v5,v6,v7,v8] t (0,0)))):w.cell? ⟨g,0,none⟩=some v0∧w.cell? ⟨g,1,none⟩=some v1∧w.cell? ⟨g,2,none⟩=some v2∧w.cell? ⟨g,3,none⟩=some v3∧w.cell? ⟨g,4,none⟩=some v4∧w.cell? ⟨g,5,none⟩=some v5∧w.cell? ⟨g,6,none⟩=some v6∧w.cell? ⟨g,7,none⟩=some v7∧w.cell? ⟨g,8,none⟩=some v8∧w.frozen? ⟨g,0,none⟩=false∧w.frozen? ⟨g,1,none⟩=false∧w.frozen? ⟨g,2,none⟩=false∧w.frozen? ⟨g,3,none⟩=false∧w.frozen? ⟨g,4,none⟩=false∧w.frozen? ⟨g,5,none⟩=false∧w.frozen? ⟨g,6,none⟩=false∧w.frozen? ⟨g,7,none⟩=false∧w.frozen? ⟨g,8,none⟩=false:=⟨(blk_cell h.out 0).trans rfl,(blk_cell h.out 1).trans rfl,(blk_cell h.out 2).trans rfl,(blk_cell h.out 3).trans rfl,(blk_cell h.out 4).trans rfl,(blk_cell h.out 5).trans rfl,(blk_cell h.out 6).trans rfl,(blk_cell h.out 7).trans rfl,(blk_cell h.out 8).trans rfl,blk_frozen h.out 0,blk_frozen h.out 1,blk_frozen h.out 2,blk_frozen h.out 3,blk_frozen h.out 4,blk_frozen h.out 5,blk_frozen h.out 6,blk_frozen h.out 7,blk_frozen h.out 8⟩
theorem bfr {cs:Array Value} {p:Addr} {u:Value} (hp:Aside0 (g≠p.block)) (h:w.heap[g]?=some (.cells cs t (0,0))):(w.setCell p u).heap[g]?=some (.cells cs t (0,0)):=blk_far h hp.out u
theorem bp_ {cs cs1:Array Value} (cs2:Array Value) (h:Aside0 (w.heap[g]?=some (.cells cs t (0,0)))) (hb:Below W.heap.size W w1) (ht:w.heap[g]?=some (.cells cs t (0,0))→W.heap[g]?=some (.cells cs1 t (0,0)):=by (intro h;(with_reducible repeat (first|refine blk_drewN ?_ _|refine blk_drew ?_|refine blk_alloc ?_ _|(apply bfr;assumption)|apply blk_set));exact h)) (e:cs1=cs2:=by rfl):Aside0 (w1.heap[g]?=some (.cells cs2 t (0,0))):=⟨blk_below (e▸ht h.out) hb⟩
theorem br_ {cs cs1 cs2:Array Value} (h:Aside0 (w.heap[g]?=some (.cells cs t (0,0)))) (ht:w.heap[g]?=some (.cells cs t (0,0))→W.heap[g]?=some (.cells cs1 t (0,0)):=by (intro h;(with_reducible repeat (first|refine blk_drewN ?_ _|refine blk_drew ?_|refine blk_alloc ?_ _|(apply bfr;assumption)|apply blk_set));exact h)) (e:cs1=cs2:=by rfl):W.heap[g]?=some (.cells cs2 t (0,0)):=e▸ht h.out
theorem bq_ {cs cs1 cs2:Array Value} (h:Aside0 (w.heap[g]?=some (.cells cs t (0,0)))) (ht:w.heap[g]?=some (.cells cs t (0,0))→W.heap[g]?=some (.cells cs1 t (0,0)):=by (intro h;(with_reducible repeat (first|refine blk_drewN ?_ _|refine blk_drew ?_|refine blk_alloc ?_ _|(apply bfr;assumption)|apply blk_set));exact h)) (e:cs1=cs2:=by rfl):Aside0 (W.heap[g]?=some (.cells cs2 t (0,0))):=⟨e▸ht h.out⟩
theorem bu_ {o:Obj} (h:Aside0 (w.heap[g]?=some o)) (ht:w.heap[g]?=some o→W.heap[g]?=some o:=by (intro h;(with_reducible repeat (first|refine blk_drewN ?_ _|refine blk_drew ?_|refine blk_alloc ?_ _|refine blk_far ?_ (Aside0.out (by assumption)) _));exact h)):Aside0 (W.heap[g]?=some o):=⟨ht h.out⟩
theorem ct {cs:Array Value} {v:Value} (h:Aside0 (w.heap[g]?=some (.cells cs t (0,0)))) (i:Nat) (e:cs[i]?=some v:=by rfl):w.cell? ⟨g,i,none⟩=some v:=(blk_cell h.out i).trans e
theorem nn (h:Aside0 (g≠g')):g≠g'∧g'≠g:=⟨h.out,fun e=>h.out e.symm⟩
theorem nb {o:Obj} (h:Aside0 (w.heap[g]?=some o)) (hg:g'=W.heap.size) (ht:w.heap[g]?=some o→W.heap[g]?=some o:=by (intro h;(with_reducible repeat (first|refine blk_drewN ?_ _|refine blk_drew ?_|refine blk_alloc ?_ _|refine blk_far ?_ (Aside0.out (by assumption)) _));exact h)):Aside0 (g≠g')∧Aside0 (g'≠g):=⟨⟨by rw [hg];exact Nat.ne_of_lt (blk_lt (ht h.out))⟩,⟨by rw [hg];exact Nat.ne_of_gt (blk_lt (ht h.out))⟩⟩
theorem bi_ {α β:Type} {x:Option α} {f:α→Option β} {r:β} (h:x.bind f=some r):∃ a,Aside0 (x=some a)∧f a=some r:=by
 obtain ⟨a,h1,h2⟩:=Option.bind_eq_some_iff.mp h
 exact ⟨a,⟨h1⟩,h2⟩
theorem aq {α:Type} {x y:α} (h:x=y:=by first|rfl|(simp;done)|(simp [*];done)):x=y:=h
theorem dr {w w':World} (h:Drawn0 w w':=by repeat (first|exact Drawn0.refl _|apply Drawn0.step)):Drawn0 w w':=h
abbrev c_ (w:World) (g i:Nat) (v:Value):Prop:=w.cell? ⟨g,i,none⟩=some v
def m_ (n b:Nat):Array Bool:=((List.range n).map fun i=>b.testBit i).toArray
end
section
variable {P:Program} {ops:Array Oper} {rest:List Oper} {o:Oper} {a:Act} {Q:Exit→Act→World→Prop} {W:World}
theorem gc (f:FuncId) {ars:Array Operand} {ts:Array TypeId} (_ho:o.op=.call { callee:=.value (.func f),args:=ars,argTypes:=ts }) (h:wpList P ops Q (o::rest) a W):wpList P ops Q (o::rest) a W:=h
theorem gd (N:Tmp) (_hN:o.dst=some N) (h:wpList P ops Q (o::rest) a W):wpList P ops Q (o::rest) a W:=h
theorem gl_ (N:Option Tmp) (hd:o.dst=N) {f:FuncId} {fn:Func} {ars:Array Operand} {ts:Array TypeId} {args:Array Value} (hop:o.op=.call { callee:=.value (.func f),args:=ars,argTypes:=ts }) (hf:P.funcs[f]?=some fn)
  (h : Calls P f args W fun e w' => ∃ v, e = .returned v ∧ wpList P ops Q rest (a.put N v) w') (hargs : ars.map a.eval = args) (hg : o.guard = none := by rfl) (hb : fn.body.isSome = true := by kernel_rfl) (hname : (fn.name == "runtime.NumGoroutine") = false := by kernel_rfl) : wpList P ops Q (o :: rest) a W := goesL_ N hd hg hf hname hb args hop hargs h
theorem gm_ (N:Option Tmp) (hd:o.dst=N) {f:FuncId} {fn:Func} {ars:Array Operand} {ts:Array TypeId} {args:Array Value} {v:Value} {R:World→Prop} (hop:o.op=.call { callee:=.value (.func f),args:=ars,argTypes:=ts }) (hf:P.funcs[f]?=some fn)
  (h : Calls P f args W fun e w' => e = .returned v ∧ R w') (hargs : ars.map a.eval = args) (k : ∀ w', R w' → wpList P ops Q rest (a.put N v) w') (hg : o.guard = none := by rfl) (hb : fn.body.isSome = true := by kernel_rfl) (hname : (fn.name == "runtime.NumGoroutine") = false := by kernel_rfl) : wpList P ops Q (o :: rest) a W :=
 goesL_ N hd hg hf hname hb args hop hargs (h.mono fun _ w' ⟨he,hr⟩=>⟨v,he,k w' hr⟩)
theorem gs_ {oi:Oper} {N:Option Tmp} {w:World} {K:Act→World→Prop} {f:FuncId} {fn:Func} {ars:Array Operand} {ts:Array TypeId} {args:Array Value} {v:Value} {R:World→Prop} (hop:oi.op=.call { callee:=.value (.func f),args:=ars,argTypes:=ts }) (hf:P.funcs[f]?=some fn)
  (h : Calls P f args w fun e w' => e = .returned v ∧ R w') (hargs : ars.map a.eval = args) (k : ∀ w', R w' → K (a.put N v) w') (hb : fn.body.isSome = true := by kernel_rfl) (hname : (fn.name == "runtime.NumGoroutine") = false := by kernel_rfl) (hw : Region.wanted oi (yielded ops a.tmps) = true := by rfl) (hN : oi.dst = N := by rfl) :
  if Region.wanted oi (yielded ops a.tmps)=true then Oper.wp P oi a w K Q else K (a.put N undef) w :=
 goes_ hf hname hb args hw hN hop hargs (h.mono fun _ w' ⟨he,hr⟩=>⟨v,he,k w' hr⟩)
theorem bx_ (N:Tmp) (t:TypeId) (cs:Array Value) (hd:o.dst=some N) (hgd:o.guard=none) (h:∀ g,g=W.heap.size→∀ w1,Aside0 (w1.heap[g]?=some (.cells cs t (0,0)))→Below W.heap.size W w1→wpList P ops Q rest (a.put o.dst (.pointer (some ⟨g,0,none⟩))) w1)
  (hrun:(execOp a.eval o).run P W=.ok (.value (.pointer (some ⟨W.heap.size,0,none⟩))) (W.alloc (.cells cs t (0,0))):=by first|(go_simp;done)|(go_simp;rfl)):wpList P ops Q (o::rest) a W:=box_event hgd hd hrun fun g hg w1 h1 h2=>h g hg w1 ⟨h1⟩ h2
end
section
variable {P:Program} {ops:Array Oper} {Q:Exit→Act→World→Prop} {md:Region.Mode} {S:World→Prop} {ds:List Nat} {T:Bool × List (List Nat × List Nat)} {B:List Nat} {l l':Array Bool} {i:Nat}
theorem ao (hT:Aside0 (rtab md ops=T)) (h:anyT T l.toList l'.toList i=true:=by kernel_rfl):anyB md ops l l' i=true:=any_of hT.out h
theorem tw (hT:Aside0 (rtab md ops=T)) (hB:Aside0 (waitsOk T.2 B=true)) (h:takeW T B ds l.toList l'.toList i=true:=by kernel_rfl):takeB md ops ds l l' i=true:=take_ofW hT.out hB.out h
theorem oo {i:Nat} (hT:Aside0 (rtab md ops=T)) (h:(readyT T.2 l.toList==[i]&&l.toList.set i true==l'.toList)=true:=by kernel_rfl):readyB md ops l l' i=true:=one_of hT.out h
theorem o1_ (i:Nat) (N:Option Tmp) {oi:Oper} {fuel:Nat} {l:Array Bool} {a:Act} {w:World} (l':Array Bool) (hi:ops[i]?=some oi) (hN:oi.dst=N) (hc:readyB md ops l l' i=true)
  (h:∀ K:Act→World→Prop,Shut (∀ a' w',S w'→(S w'→wpAnyLast P md ops Q S ds fuel l' a' w')→K a' w')→if Region.wanted oi (yielded ops a.tmps)=true then Oper.wp P oi a w K Q else K (a.put N undef) w) (hd:i ∉ ds:=by decide) :
  wpAnyLast P md ops Q S ds (fuel+1) l a w:=one_ l' hi hN hc hd h
theorem pu_ (i:Nat) (N:Option Tmp) {oi:Oper} {v:Value} {fuel:Nat} {l:Array Bool} {a:Act} {w:World} (l':Array Bool) (hi:ops[i]?=some oi) (hN:oi.dst=N) (hc:anyB md ops l l' i=true) {a':Act}
  (h:wpAnyLast P md ops Q S ds fuel l' a' w) (hy:Yields P ops oi v a:=by (refine Or.inl ⟨by rfl,?_⟩;intro w';go_simp;with_reducible rfl)) (ha:a.put N v=a':=by (simp only [Act.put,si,s0,s1,i64_w,i32_w];rfl)) (hQ:∀ c a w,Q (.panic c) (a.put oi.dst v) w→Q (.panic c) a w:=by exact fun _ _ _ h=>h):wpAnyLast P md ops Q S ds (fuel+1) l a w:=pure_ l' hi hN hc hQ hy ha h
theorem pv_ (i:Nat) (N:Option Tmp) {oi:Oper} {fuel:Nat} {l:Array Bool} {a:Act} {w:World} (l':Array Bool) (hi:ops[i]?=some oi) (hN:oi.dst=N) (hc:anyB md ops l l' i=true) {a':Act}
  (h:wpAnyLast P md ops Q S ds fuel l' a' w) (hy:Yields P ops oi undef a:=by exact Or.inr ⟨by rfl,rfl⟩) (ha:a.put N undef=a':=by (simp only [Act.put,si,s0,s1,i64_w,i32_w];rfl)) (hQ:∀ c a w,Q (.panic c) (a.put oi.dst undef) w→Q (.panic c) a w:=by exact fun _ _ _ h=>h):wpAnyLast P md ops Q S ds (fuel+1) l a w:=pure_ l' hi hN hc hQ hy ha h
theorem tk_ (i:Nat) (N:Option Tmp) {oi:Oper} {v:Value} {fuel:Nat} {l:Array Bool} {a:Act} {w:World} (l':Array Bool) (hi:ops[i]?=some oi) (hN:oi.dst=N) (hc:takeB md ops ds l l' i=true) (hS:S w) {a':Act}
  (h:wpAnyLast P md ops Q S ds fuel l' a' w) (hy:YieldsIf P ops S oi v a:=by (refine Or.inl ⟨by rfl,?_⟩;intro w' hs_;go_simp;with_reducible rfl)) (ha:a.put N v=a':=by (simp only [Act.put,si,s0,s1,i64_w,i32_w];rfl)) (hQ:∀ c a w,Q (.panic c) (a.put oi.dst v) w→Q (.panic c) a w:=by exact fun _ _ _ h=>h):wpAnyLast P md ops Q S ds (fuel+1) l a w:=take_ l' hi hN hc hQ hy hS ha h
theorem nr_ (N:Option Tmp) {fuel:Nat} {l:Array Bool} {a a':Act} {v:Value} {w:World} (h:wpAnyLast P md ops Q S ds fuel l a' w) (ha:a.put N v=a':=by (simp only [Act.put,si,s0,s1,i64_w,i32_w];rfl)):wpAnyLast P md ops Q S ds fuel l (a.put N v) w:=norm_ ha h
end
def TabOK (w:World):Prop:=∀ j,j<64→w.cell? ⟨0,j,none⟩=some (.int .u8 (Lib.deBruijn64tab.getD j 0))
theorem TabOK.tz {w:World} (h:TabOK w):∀ j,j<64→w.cell? ⟨0,j,none⟩=some (.int .u8 (Lib.deBruijn64tab.getD j 0)):=h
theorem TabOK.below {w w':World} (h:TabOK w) (hb:Below w.heap.size w w'):TabOK w':=fun j hj =>
 (hb.cell (World.block_lt_of_cell? w _ (h j hj))).trans (h j hj)
theorem tb {w w1 W:World} (h:TabOK w) (k:Aside0 (Below w.heap.size w w1)) (ht:Below w.heap.size w w1→Below w.heap.size w W:=by (intro h;(repeat (first|(with_reducible first|exact h|apply below_alloc|apply pw_below_drewN|apply below_drew1|refine below_set ?_ (Aside0.out (by assumption)))|exact h)))):TabOK W:=h.below (ht k.out)
theorem tb0 {w W:World} (h:TabOK w) (ht:Below w.heap.size w W:=by (repeat (first|(with_reducible first|exact Below.refl _ _|apply below_alloc|apply pw_below_drewN|apply below_drew1)|exact Below.refl _ _))):TabOK W:=h.below ht
theorem tt {w W:World} (h:Aside0 (TabOK w)) (ht:TabOK w→TabOK W:=by first|exact (fun h=>h)|(intro h;exact tb h (by assumption))|(intro h;exact tb0 h)):TabOK W:=ht h.out
section
variable {w W:World} {a:Addr} {v v' u:Value} {g i:Nat}
theorem hx_ (h:Aside0 (Below w.heap.size w W)) (hx:w.cell? a=some v):W.cell? a=some v:=(h.out.cell (World.block_lt_of_cell? w _ hx)).trans hx
theorem od_ {p:Prop} [Decidable p] (h:decide p=true:=by first|(with_reducible assumption)|assumption):p:=of_decide_eq_true h
theorem fa_ {b o:Nat} (n:Aside0 (b≠g)) (h:W.cell? ⟨b,o,none⟩=some v):(W.setCell ⟨g,i,none⟩ u).cell? ⟨b,o,none⟩=some v:=(cell_far (p:=⟨g,i,none⟩) (a:=⟨b,o,none⟩) n.out _).trans h
end
section
variable {α:Type} {d:Kd α} {e base:Nat} {ok:Nat→Prop} {v:Value} {xs:List α} {w W:World}
theorem Rt_ (h:d.R e w base ok v xs) (ht:d.R e w base ok v xs→d.R e W base ok v xs:=by (intro h;(with_reducible repeat (first|apply Kd.R_alloc|apply Kd.R_drewN|apply Kd.R_drew));exact h)):d.R e W base ok v xs:=ht h
theorem Vt_ (h:Kd.V d e w base ok v xs) (ht:Kd.V d e w base ok v xs→Kd.V d e W base ok v xs:=by (intro h;(with_reducible repeat (first|apply Kd.V_alloc|apply Kd.V_drewN|apply Kd.V_drew));exact h)):Kd.V d e W base ok v xs:=ht h
theorem Nt_ (h:Kd.N d e w base ok v xs) (ht:Kd.N d e w base ok v xs→Kd.N d e W base ok v xs:=by (intro h;(with_reducible repeat (first|apply Kd.N_alloc|apply Kd.N_drewN|apply Kd.N_drew));exact h)):Kd.N d e W base ok v xs:=ht h
end
def idxA {α:Type} (p:α→Bool) (l:List α):Int:=if l.any p then (l.findIdx p:Int) else -1
theorem getD_mem {α:Type} {d:α} {l:List α} {x:Int} (h0:0≤x) (h1:x<l.length):l.getD x.toNat d∈l:=by
 rw [List.getD_eq_getElem?_getD,List.getElem?_eq_getElem (by omega)]
 exact List.getElem_mem _
theorem idxA_at {α:Type} {d:α} {p:α→Bool} {l:List α} {x:Int} (h0:0≤x) (h1:x<l.length) (hb:∀ j:Nat,(j:Int)<x→p (l.getD j d)=false) (hx:p (l.getD x.toNat d)=true):idxA p l=x:=by
 obtain ⟨i,rfl⟩:=Int.eq_ofNat_of_zero_le h0
 have hi:i<l.length:=by omega
 rw [Int.toNat_natCast,List.getD_eq_getElem?_getD,List.getElem?_eq_getElem hi] at hx
 have hx:p l[i]=true:=hx
 have ha:l.any p=true:=List.any_eq_true.2 ⟨l[i],List.getElem_mem hi,hx⟩
 unfold idxA
 rw [if_pos ha]
 congr 1
 refine List.findIdx_eq hi |>.2 ⟨hx,fun j hj=>?_⟩
 have:=hb j (by omega)
 rwa [List.getD_eq_getElem?_getD,List.getElem?_eq_getElem (by omega)] at this
theorem idxA_none {α:Type} {d:α} {p:α→Bool} {l:List α} {x:Int} (h1:¬ x<l.length) (hb:∀ j:Nat,(j:Int)<x→p (l.getD j d)=false):idxA p l=-1:=by
 unfold idxA
 rw [if_neg]
 intro ha
 obtain ⟨y,hy,hp⟩:=List.any_eq_true.1 ha
 obtain ⟨j,hj,rfl⟩:=List.getElem_of_mem hy
 have:=hb j (by omega)
 rw [List.getD_eq_getElem?_getD,List.getElem?_eq_getElem hj] at this
 have this:p l[j]=false:=this
 rw [this] at hp
 cases hp
theorem idxA_ge {α:Type} (p:α→Bool) (l:List α):decide (idxA p l≥0)=l.any p:=by
 unfold idxA
 cases h:l.any p
 ·rw [if_neg (by simp)];rfl
 ·rw [if_pos rfl];exact decide_eq_true (by omega)
theorem am {p:Prop} (h:p):Aside0 p:=⟨h⟩
end Go.Proofs.YtenphnkiacfmiaaDoor.X
