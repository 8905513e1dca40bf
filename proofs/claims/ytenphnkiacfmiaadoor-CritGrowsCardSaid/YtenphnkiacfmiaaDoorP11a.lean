/- Fractions as rational numbers: what sums of rows of fractions are, and how two are to one another.
   Conditions: as each theorem's head says. -/
import Derived.Test.YtenphnkiacfmiaaDoorP02v
namespace Go.Proofs.YtenphnkiacfmiaaDoor.Pure
set_option linter.unusedVariables false
open Go.RowKit Go.Proofs.YtenphnkiacfmiaaDoor.X Go.Proofs.YtenphnkiacfmiaaDoorW.PrintWords Go.Proofs.YtenphnkiacfmiaaDoorW.PrintLast Go.Proofs.YtenphnkiacfmiaaDoorW.PrintMore
def TP {α:Type} (g:Nat→Option α) (P:α→Prop):Prop:=∃ r,Ev g r∧P r
theorem TP.now {α:Type} {r:α} {P:α→Prop} (h:P r):TP (fun _=>some r) P:=⟨r,Ev.now r,h⟩
theorem TP.of {α:Type} {g:Nat→Option α} {r:α} {P:α→Prop} (e:Ev g r) (h:P r):TP g P:=⟨r,e,h⟩
theorem TP.itep {α:Type} {c:Prop} [Decidable c] {A B:Nat→Option α} {P:α→Prop} (h:c) (k:TP A P):TP (fun n=>if c then A n else B n) P:=by
 obtain ⟨r,e,p⟩:=k;exact ⟨r,Ev.itep h e,p⟩
theorem TP.iten {α:Type} {c:Prop} [Decidable c] {A B:Nat→Option α} {P:α→Prop} (h:¬ c) (k:TP B P):TP (fun n=>if c then A n else B n) P:=by
 obtain ⟨r,e,p⟩:=k;exact ⟨r,Ev.iten h e,p⟩
theorem TP.ite {α:Type} {c:Prop} [Decidable c] {A B:Nat→Option α} {P:α→Prop} (h:c→TP A P) (k:¬ c→TP B P):TP (fun n=>if c then A n else B n) P:=by
 by_cases hc:c
 ·exact TP.itep hc (h hc)
 ·exact TP.iten hc (k hc)
theorem TP.bind {α β:Type} {g:Nat→Option α} {f:Nat→α→Option β} {Q:α→Prop} {P:β→Prop} (h:TP g Q) (k:∀ a,Q a→TP (fun n=>f n a) P):TP (fun n=>(g n).bind (f n)) P:=by
 obtain ⟨a,ha,q⟩:=h
 obtain ⟨r,hr,p⟩:=k a q
 exact ⟨r,Ev.bind ha hr,p⟩
theorem TP.bindc {α β:Type} {x:Option α} {f:Nat→α→Option β} {a:α} {P:β→Prop} (h:x=some a) (k:TP (fun n=>f n a) P):TP (fun n=>x.bind (f n)) P:=by
 obtain ⟨r,hr,p⟩:=k
 exact ⟨r,Ev.bindc h hr,p⟩
theorem TP.step {α:Type} {g f:Nat→Option α} {P:α→Prop} (h:∀ k,g (k+1)=f k) (k:TP f P):TP g P:=by
 obtain ⟨r,hr,p⟩:=k;exact ⟨r,Ev.step h hr,p⟩
def qv (a b:Int):Rat:=(a:Rat) / (b:Rat)
def rv (x:S36):Rat:=qv (nm x.f0 x.f1).1 (nm x.f0 x.f1).2
def SV:List S36→Rat
 | []=>0
 | x::t=>rv x+SV t
theorem SV_append:∀ (a b:List S36),SV (a++b)=SV a+SV b
 | [],b=>by show SV b=0+SV b;grind
 | x::t,b=>by
  have:=SV_append t b
  show rv x+SV (t++b)=(rv x+SV t)+SV b
  grind
theorem cast_pos {b:Int} (hb:1≤b):(0:Rat)<(b:Rat):=by
 have:((0:Int):Rat)<(b:Rat):=Rat.intCast_lt_intCast.2 (by omega)
 simpa using this
theorem qv_lt {a b c d:Int} (hb:1≤b) (hd:1≤d):qv c d<qv a b↔c*b<a*d:=by
 have h1:=cast_pos hb
 have h2:=cast_pos hd
 unfold qv
 rw [Rat.div_lt_iff h2,show (a:Rat) / (b:Rat)*(d:Rat)=((a:Rat)*(d:Rat)) / (b:Rat) from by grind,Rat.lt_div_iff h1,← Rat.intCast_mul,← Rat.intCast_mul,Rat.intCast_lt_intCast]
theorem qv_eq {a b c d:Int} (hb:1≤b) (hd:1≤d) (h:qv a b=qv c d):a*d=c*b:=by
 have h1:¬ c*b<a*d:=fun hh=>by
  have:=(qv_lt hb hd).2 hh
  rw [h] at this
  exact absurd this (by grind)
 have h2:¬ a*d<c*b:=fun hh=>by
  have:=(qv_lt hd hb).2 hh
  rw [h] at this
  exact absurd this (by grind)
 omega
theorem rt_one {a b c d:Int} (ha:I64 a) (hb:I64 b) (hc:I64 c) (hd:I64 d) (h1:rt a b) (h2:rt c d) (h:qv a b=qv c d):a=c∧b=d:=by
 have e:=qv_eq h1.1 h2.1 h
 have b1:=h1.1
 have d1:=h2.1
 have l:=lowZ_eq (z:=a) (z':=c) (d:=b.natAbs) (d':=d.natAbs) (by omega) (by omega) (by
  rw [show ((d.natAbs:Nat):Int)=d by omega,show ((b.natAbs:Nat):Int)=b by omega];exact e)
 rw [lowZ_self ha hb h1,lowZ_self hc hd h2] at l
 exact ⟨congrArg Prod.fst l,congrArg (fun x=>x.2.1) l⟩
theorem rv_of {p q:Int} (h:rt p q):rv ⟨p,q⟩=qv p q:=by
 unfold rv
 rw [nm_of h]
theorem cmp_pos {a b c d:Int} (ha:I64 a) (hb:I64 b) (hc:I64 c) (hd:I64 d):cmpS a b c d>0↔rv ⟨c,d⟩<rv ⟨a,b⟩:=by
 obtain ⟨_,_,i3,_⟩:=nm_spec ha hb
 obtain ⟨_,_,i6,_⟩:=nm_spec hc hd
 unfold cmpS rv
 simp only
 rw [qv_lt i3 i6]
 unfold sgn
 split
 ·constructor<;>intro h<;>omega
 ·split<;>constructor<;>intro h<;>omega
def sumS:List S36→Int→Int→Int × Int × Int
 | [],p,q=>(p,q,0)
 | x::t,p,q=>if (addS p q x.f0 x.f1).2.2=0 then sumS t (addS p q x.f0 x.f1).1 (addS p q x.f0 x.f1).2.1 else (0,0,(addS p q x.f0 x.f1).2.2)
def Fits (l:List S36):Prop:=∀ x∈l,I64 x.f0∧I64 x.f1
theorem add_val {a b c d:Int} (ha:I64 a) (hb:I64 b) (hc:I64 c) (hd:I64 d) (hr:rt a b) (h:(addS a b c d).2.2=0):I64 (addS a b c d).1∧I64 (addS a b c d).2.1∧rt (addS a b c d).1 (addS a b c d).2.1∧qv (addS a b c d).1 (addS a b c d).2.1=qv a b+rv ⟨c,d⟩:=by
 obtain ⟨i4,i5,i6,_⟩:=nm_spec hc hd
 have hb1:=hr.1
 unfold addS at h ⊢
 rw [nm_of hr] at h ⊢
 simp only at h ⊢
 have hD:0<b*(nm c d).2:=Int.mul_pos (by omega) (by omega)
 obtain ⟨f1,f2,f3,f4⟩:=lowZ_fits (by omega) h
 refine ⟨f1,f2,f3,?_⟩
 unfold rv qv
 simp only
 generalize lowZ (a*(nm c d).2+(nm c d).1*b) (b*(nm c d).2).natAbs=z at *
 rw [show (((b*(nm c d).2).natAbs:Nat):Int)=b*(nm c d).2 by omega] at f4
 generalize (nm c d).1=p at *
 generalize (nm c d).2=q at *
 have g:=congrArg (fun x:Int=>(x:Rat)) f4
 simp only [Rat.intCast_mul,Rat.intCast_add] at g
 have h1:=cast_pos hb1
 have h2:=cast_pos i6
 have h3:=cast_pos f3.1
 have n1:(b:Rat)≠0:=by grind
 have n2:(q:Rat)≠0:=by grind
 have n3:(z.2.1:Rat)≠0:=by grind
 clear f4 h f3 i6 hD hb1 h1 h2 h3
 generalize (z.1:Rat)=u at *
 generalize (z.2.1:Rat)=v at *
 grind
theorem sum_val:∀ {l:List S36} {p q:Int},Fits l→I64 p→I64 q→rt p q→(sumS l p q).2.2=0→I64 (sumS l p q).1∧I64 (sumS l p q).2.1∧rt (sumS l p q).1 (sumS l p q).2.1∧qv (sumS l p q).1 (sumS l p q).2.1=qv p q+SV l
 | [],p,q,_,hp,hq,hr,_=>⟨hp,hq,hr,by show qv p q=qv p q+0;grind⟩
 | x::t,p,q,hl,hp,hq,hr,h=>by
  obtain ⟨x0,x1⟩:=hl x (by simp)
  unfold sumS at h ⊢
  by_cases c:(addS p q x.f0 x.f1).2.2=0
  ·rw [if_pos c] at h ⊢
   obtain ⟨f1,f2,f3,f4⟩:=add_val hp hq x0 x1 hr c
   obtain ⟨g1,g2,g3,g4⟩:=sum_val (l:=t) (fun y hy=>hl y (by simp [hy])) f1 f2 f3 h
   refine ⟨g1,g2,g3,?_⟩
   rw [g4,f4]
   show qv p q+rv x+SV t=qv p q+(rv x+SV t)
   grind
  ·rw [if_neg c] at h
   exact absurd h c
theorem zero_rt:rt 0 1:=⟨by decide,by decide⟩
theorem zero_qv:qv 0 1=0:=by decide +kernel
theorem i64_0:I64 0:=by unfold I64;omega
theorem i64_1:I64 1:=by unfold I64;omega
theorem rd_at {l:List S36} {i:Nat} (h:i<l.length):rd_T36 l (i:Int)=l[i]:=by
 unfold rd_T36
 rw [Int.toNat_natCast,List.getD_eq_getElem?_getD,List.getElem?_eq_getElem h];rfl
theorem fsum_loop {l:List S36} (hl:Fits l) (hn:l.length≤100000) (m:Nat):∀ (i:Nat) (p q:Int),i+m=l.length→I64 p→I64 q→rt p q→Ev (fun k=>frac_Sum.l0 k l (l.length:Int) (i:Int) p q) (sumS (l.drop i) p q):=by
 induction m with
 | zero =>
  intro i p q hi hp hq hr
  rw [List.drop_eq_nil_of_le (by omega)]
  refine Ev.step (f:=fun _=>some (p,q,0)) (fun k=>?_) (Ev.now _)
  simp only [frac_Sum.l0]
  rw [if_neg (by omega)]
 | succ m ih =>
  intro i p q hi hp hq hr
  have hlt:i<l.length:=by omega
  obtain ⟨x0,x1⟩:=hl l[i] (List.getElem_mem hlt)
  rw [List.drop_eq_getElem_cons hlt]
  unfold sumS
  refine Ev.step (f:=fun k=>(frac_Add.f k p q l[i].f0 l[i].f1).bind fun bt=>if bt.2.2=0 then frac_Sum.l0 k l (l.length:Int) (wrap64 ((i:Int)+1)) bt.1 bt.2.1 else some (0,0,bt.2.2)) (fun k=>?_) ?_
  ·simp only [frac_Sum.l0]
   rw [if_pos (by omega),if_pos (by omega),if_pos (by omega),rd_at hlt]
  ·refine Ev.bind (fAdd_ev hp hq x0 x1) ?_
   by_cases h:(addS p q l[i].f0 l[i].f1).2.2=0
   ·obtain ⟨f1,f2,f3,_⟩:=add_val hp hq x0 x1 hr h
    rw [if_pos h]
    refine Ev.itep h ?_
    rw [w64 (by omega) (by omega)]
    exact ih (i+1) _ _ (by omega) f1 f2 f3
   ·rw [if_neg h]
    exact Ev.iten h (Ev.now _)
theorem fsum_ev {l:List S36} (hl:Fits l) (hn:l.length≤100000):Ev (fun k=>frac_Sum.f k l) (sumS l 0 1) :=
 Ev.bindc (a:=(0,1)) rfl (fsum_loop hl hn l.length 0 0 1 (by omega) i64_0 i64_1 zero_rt)
theorem sum_fits {l:List S36} (hl:Fits l) (h:(sumS l 0 1).2.2=0):I64 (sumS l 0 1).1∧I64 (sumS l 0 1).2.1∧rt (sumS l 0 1).1 (sumS l 0 1).2.1∧qv (sumS l 0 1).1 (sumS l 0 1).2.1=SV l:=by
 obtain ⟨a,b,c,d⟩:=sum_val hl i64_0 i64_1 zero_rt h
 refine ⟨a,b,c,?_⟩
 rw [d,zero_qv]
 grind
end Go.Proofs.YtenphnkiacfmiaaDoor.Pure
