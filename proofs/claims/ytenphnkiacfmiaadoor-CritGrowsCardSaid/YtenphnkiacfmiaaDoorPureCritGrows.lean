/- The pure law CritGrows: a greater ratio makes no lesser sum, and, no ratio being below 0, a group less makes no greater one.
   Conditions: none beyond the kinds of the arguments. -/
import Derived.Test.YtenphnkiacfmiaaDoorP11f
namespace Go.Proofs.YtenphnkiacfmiaaDoor.Pure
set_option linter.unusedVariables false
open Go.RowKit Go.Proofs.YtenphnkiacfmiaaDoor.X Go.Proofs.YtenphnkiacfmiaaDoorW.PrintWords Go.Proofs.YtenphnkiacfmiaaDoorW.PrintLast Go.Proofs.YtenphnkiacfmiaaDoorW.PrintMore
theorem wf_i64 {x:Int} (h:(Lit.int .i64 x).wf=true):I64 x:=by
 simp [Lit.wf,IntKind.min,IntKind.max,IntKind.signed,IntKind.bits] at h
 exact ⟨by omega,by omega⟩
theorem cmp_neg {a b c d:Int} (ha:I64 a) (hb:I64 b) (hc:I64 c) (hd:I64 d):cmpS a b c d<0↔rv ⟨a,b⟩<rv ⟨c,d⟩:=by
 obtain ⟨_,_,i3,_⟩:=nm_spec ha hb
 obtain ⟨_,_,i6,_⟩:=nm_spec hc hd
 unfold cmpS rv
 simp only
 rw [qv_lt i6 i3]
 unfold sgn
 split
 ·constructor<;>intro h<;>omega
 ·split<;>constructor<;>intro h<;>omega
theorem small_take {fs:List S61} {gs:List S33} (h:Small fs gs) (n:Nat):Small fs (gs.take n) :=
 ⟨h.fs0,by rw [List.length_take];have:=h.gs0;omega,fun g hg=>h.rings g (List.mem_of_mem_take hg)⟩
theorem neg_ev {rs:List S36} (hl:rs.length≤50) (d:Nat):∀ i:Nat,i+d=rs.length→(∀ j:Nat,j<i→0≤(rd_T36 rs (j:Int)).f0)→TP (fun k=>carrefourlaw11_below.l0 k rs (i:Int)) fun r=>r=false→∀ x∈rs,0≤x.f0:=by
 induction d with
 | zero =>
  intro i hi hb
  refine TP.step (fun k=>by rw [carrefourlaw11_below.l0]) (TP.iten (by omega) (TP.now fun _ x hx=>?_))
  obtain ⟨n,hn,rfl⟩:=List.getElem_of_mem hx
  have:=hb n (by omega)
  rwa [rd_at hn] at this
 | succ d ih =>
  intro i hi hb
  have q1:(i:Int)<(rs.length:Int):=by omega
  have q2:(0:Int)≤(i:Int):=by omega
  refine TP.step (fun k=>by rw [carrefourlaw11_below.l0,up1 (show i<1000000000000 by omega)]) (TP.itep q1 (TP.itep q2 (TP.ite (fun _=>TP.now fun h=>by cases h) fun c=>?_)))
  refine ih (i+1) (by omega) fun j hj=>?_
  by_cases e:j=i
  ·subst e;omega
  ·exact hb j (by omega)
section
variable (nm_:ByteArray) (hs:List S96) (ps:List S98) (fs:List S61) (gs:List S33) (es:List S100) (at_:Int)
theorem grows_j2 {rs:List S36} (hr:Fits rs) (h50:rs.length≤50) (hsm:Small fs gs) {i:Nat} (hi:i<rs.length) {a b:Int} (ia:I64 a) (ib:I64 b) (hrt:rt a b) {ws:List Nat} (hB:BestAll fs rs gs ws) (hq:qv a b=TV fs rs gs ws) (wi:List Int):Ev (fun k=>carrefourlaw11_CritGrows.j2 k rs (i:Int) false nm_ hs ps fs gs es at_ a b wi) true:=by
 have hgs:=hsm.gs0
 have hm:mx 0 (wrap64 ((gs.length:Int)-1))=((gs.length-1:Nat):Int):=by
  rw [w64 (by omega) (by omega)]
  unfold mx
  split<;>omega
 have q1:(0:Int)≤((gs.length-1:Nat):Int):=by omega
 have q2:((gs.length-1:Nat):Int)≤(gs.length:Int):=by omega
 have q3:(0:Int)≤(i:Int):=by omega
 have q4:(i:Int)<(rs.length:Int):=by omega
 obtain ⟨⟨c,d,wj,e⟩,hS,hA,_⟩:=Sum_says nm_ hs ps fs (gs.take (gs.length-1)) es at_ hr (small_take hsm _)
 have yes:Ev (fun k=>(carrefourlaw11_awake.f k).bind fun t=>some t) true:=Ev.bind awake_ev (Ev.now _)
 refine Ev.step (fun k=>by rw [carrefourlaw11_CritGrows.j2,hm,Int.toNat_natCast]) (Ev.iten (by decide) (Ev.itep q1 (Ev.itep q2 (Ev.bind hS ?_))))
 by_cases ce:e=0
 ·obtain ⟨_,ic,id_,hrt2,us,hU,hq2,_⟩:=hA ce
  refine Ev.itep ce (Ev.itep q3 (Ev.itep q4 ?_))
  by_cases c0:(rd_T36 rs (i:Int)).f0<0
  ·exact Ev.itep c0 yes
  ·refine Ev.iten c0 (Ev.bind (rCmp_ev ic id_ ia ib) ?_)
   by_cases c1:cmpS c d a b≤0
   ·exact Ev.itep c1 yes
   ·refine Ev.iten c1 ?_
    obtain ⟨t,ht,hb⟩:=neg_ev h50 rs.length 0 (by omega) (fun j hj=>by omega)
    refine Ev.bind ht ?_
    cases t with
    | true=>exact Ev.itep rfl yes
    | false =>
     exfalso
     have h1:=(cmp_pos ic id_ ia ib).1 (Int.not_le.1 c1)
     rw [rv_of hrt,rv_of hrt2,hq,hq2] at h1
     have h2:=less_le (rd_nonneg (hb rfl)) hB hU
     grind
 ·exact Ev.iten ce yes
theorem grows_j1 {rs:List S36} (hr:Fits rs) (h50:rs.length≤50) (hsm:Small fs gs) {i:Nat} (hi:i<rs.length) {a b:Int} (ia:I64 a) (ib:I64 b) (hrt:rt a b) {ws:List Nat} (hB:BestAll fs rs gs ws) (hq:qv a b=TV fs rs gs ws) (wi:List Int) {u v:Int} (iu:I64 u) (iv:I64 v) (hle:rv rs[i]≤rv ⟨u,v⟩):Ev (fun k=>carrefourlaw11_CritGrows.j1 k rs rs (i:Int) false nm_ hs ps fs gs es at_ a b wi u v) true:=by
 have q3:(0:Int)≤(i:Int):=by omega
 have q4:(i:Int)<(rs.length:Int):=by omega
 have hf2:Fits (rs.set i ⟨u,v⟩):=fun x hx=>by
  rcases List.mem_or_eq_of_mem_set hx with h|rfl
  ·exact hr x h
  ·exact ⟨iu,iv⟩
 obtain ⟨⟨c,d,wj,e⟩,hS,hA,_⟩:=Sum_says nm_ hs ps fs gs es at_ hf2 hsm
 have go:=grows_j2 nm_ hs ps fs gs es at_ hr h50 hsm hi ia ib hrt hB hq wi
 refine Ev.step (fun k=>by rw [carrefourlaw11_CritGrows.j1,Int.toNat_natCast]) (Ev.iten (by decide) (Ev.itep q3 (Ev.itep q4 (Ev.bind hS ?_))))
 by_cases ce:e=0
 ·obtain ⟨_,ic,id_,hrt2,us,hU,hq2,_⟩:=hA ce
  refine Ev.itep ce (Ev.bind (rCmp_ev ic id_ ia ib) ?_)
  have hno:¬ cmpS c d a b<0:=fun h=>by
   have h1:=(cmp_neg ic id_ ia ib).1 h
   rw [rv_of hrt,rv_of hrt2,hq,hq2] at h1
   have h2:=best_most hU (best_in hB)
   have h3:=tv_le (fs:=fs) (set_le (rs:=rs) (n:=i) (b:=⟨u,v⟩) fun _=>hle) gs ws
   grind
  rw [decide_eq_false hno]
  exact go
 ·exact Ev.iten ce go
theorem grows_j0 {rs:List S36} (hr:Fits rs) (h50:rs.length≤50) (hsm:Small fs gs) (h1:1≤rs.length) {at2:Int} (ha:0≤at2):Ev (fun k=>carrefourlaw11_CritGrows.j0 k rs at2 false nm_ hs ps fs gs es at_) true:=by
 have yes:Ev (fun k=>(carrefourlaw11_awake.f k).bind fun t=>some t) true:=Ev.bind awake_ev (Ev.now _)
 obtain ⟨n,rfl⟩:=Int.eq_ofNat_of_zero_le ha
 obtain ⟨⟨a,b,wi,e⟩,hS,hA,_⟩:=Sum_says nm_ hs ps fs gs es at_ hr hsm
 have hmod:Int.tmod (n:Int) (rs.length:Int)=((n % rs.length:Nat):Int):=by
  rw [Int.tmod_eq_emod_of_nonneg (by omega)]
  omega
 have hi:n % rs.length<rs.length:=Nat.mod_lt _ (by omega)
 generalize hie:n % rs.length=i at hmod hi
 obtain ⟨x0,x1⟩:=hr rs[i] (List.getElem_mem hi)
 have i1:I64 1:=i64_1
 have i3:I64 3:=by unfold I64;omega
 have f13:=f_ev i1 i3
 rw [show ofS 1 3=(1,3,0) from by decide +kernel] at f13
 have q3:(0:Int)≤(i:Int):=by omega
 have q4:(i:Int)<(rs.length:Int):=by omega
 have q5:¬ (rs.length:Int)=0:=by omega
 have no:∀ u v:Int,Ev (fun k=>carrefourlaw11_CritGrows.j1 k rs rs (i:Int) true nm_ hs ps fs gs es at_ a b wi u v) true:=fun u v=>Ev.step (fun k=>by rw [carrefourlaw11_CritGrows.j1]) (Ev.itep rfl yes)
 refine Ev.step (fun k=>by rw [carrefourlaw11_CritGrows.j0,hmod]) (Ev.iten (by decide) (Ev.bind hS (Ev.bindc (a:=[]) rfl (Ev.itep (show 0+rs.length<8796093022208 by omega) (Ev.bindc (a:=rs) rfl (Ev.iten q5 (Ev.itep q3 (Ev.itep q4 (Ev.bind f13 ?_)))))))))
 rw [rd_at hi]
 refine Ev.bind (rAdd_ev x0 x1 i1 i3) ?_
 by_cases ce:e=0
 ·refine Ev.itep ce ?_
  by_cases cb:(addS rs[i].f0 rs[i].f1 1 3).2.2=0
  ·refine Ev.itep cb (Ev.itep q4 (Ev.bind (rRight_ev x0 x1) ?_))
   by_cases cr:rt rs[i].f0 rs[i].f1
   ·obtain ⟨_,ia,ib,hrt,ws,hB,hq,_⟩:=hA ce
    rw [decide_eq_true cr]
    obtain ⟨iu,iv,hr2,hv⟩:=add_val x0 x1 i1 i3 cr cb
    refine grows_j1 nm_ hs ps fs gs es at_ hr h50 hsm hi ia ib hrt hB hq wi iu iv ?_
    rw [rv_of hr2,hv]
    have hx:rv rs[i]=qv rs[i].f0 rs[i].f1:=rv_of cr
    have h3:0≤rv (⟨1,3⟩:S36):=rv_nonneg (by decide)
    rw [hx]
    grind
   ·rw [decide_eq_false cr]
    exact no _ _
  ·exact Ev.iten cb (no _ _)
 ·exact Ev.iten ce (no _ _)
end
theorem CritGrows (nm_:ByteArray) (hs:List S96) (ps:List S98) (fs:List S61) (gs:List S33) (es:List S100) (at_:Int) (rs:List S36) (at2:Int) {P0 P1 P2 P3 P4 P5 P6 P7 P8:Prop} (h0:P0) (h1:P1) (h2:P2) (h3:P3) (h4:P4) (h5:P5) (h6:P6) (h7:P7∧∀ a∈rs,(Lit.int .i64 a.f0).wf=true∧(Lit.int .i64 a.f1).wf=true) (h8:P8):∃ k,carrefourlaw11_CritGrows.f k nm_ hs ps fs gs es at_ rs at2=some true:=by
 have hr:Fits rs:=fun x hx=>⟨wf_i64 (h7.2 x hx).1,wf_i64 (h7.2 x hx).2⟩
 suffices h:Ev (fun k=>carrefourlaw11_CritGrows.f k nm_ hs ps fs gs es at_ rs at2) true by obtain ⟨K,h⟩:=h;exact ⟨K,h K (Nat.le_refl _)⟩
 obtain ⟨t,ht,hs_⟩:=few_says nm_ hs ps fs gs es at_ rs
 have no:Ev (fun k=>carrefourlaw11_CritGrows.j0 k rs at2 true nm_ hs ps fs gs es at_) true:=Ev.step (fun k=>by rw [carrefourlaw11_CritGrows.j0]) (Ev.itep rfl (Ev.bind awake_ev (Ev.now _)))
 refine Ev.bind ht ?_
 cases t with
 | false=>exact Ev.iten (by decide) no
 | true =>
  obtain ⟨h50,hsm⟩:=hs_ rfl
  refine Ev.itep rfl ?_
  by_cases c0:(rs.length:Int)=0
  ·exact Ev.itep c0 no
  ·refine Ev.iten c0 ?_
   by_cases c1:at2<0
   ·rw [decide_eq_true c1]
    exact no
   ·rw [decide_eq_false c1]
    exact grows_j0 nm_ hs ps fs gs es at_ hr h50 hsm (by omega) (by omega)
end Go.Proofs.YtenphnkiacfmiaaDoor.Pure
