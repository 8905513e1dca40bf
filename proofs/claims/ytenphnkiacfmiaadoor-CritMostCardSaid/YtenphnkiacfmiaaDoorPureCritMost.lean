/- The pure law CritMost: of all ways through a node none has a greater sum than crit.Sum's, and one has just that (ways whose sum does not fit aside).
   Conditions: none beyond the kinds of the arguments. -/
import Derived.Test.YtenphnkiacfmiaaDoorP11e
namespace Go.Proofs.YtenphnkiacfmiaaDoor.Pure
set_option linter.unusedVariables false
open Go.RowKit Go.Proofs.YtenphnkiacfmiaaDoor.X Go.Proofs.YtenphnkiacfmiaaDoorW.PrintWords Go.Proofs.YtenphnkiacfmiaaDoorW.PrintLast Go.Proofs.YtenphnkiacfmiaaDoorW.PrintMore
section
variable (nm_:ByteArray) (hs:List S96) (ps:List S98) (fs:List S61) (gs:List S33) (es:List S100) (at_:Int)
theorem most_l2 {rs:List S36} {l:List (List Int)} {m:Bool} {i:Int} {a b:Int} {wi:List Int} {p:List Int} (hp:∀ q∈p,0≤q∧q<(rs.length:Int)) (hl:p.length≤100000) {r:Bool}
  (h:Ev (fun k=>(carrefourref02_Sum.f k (p.map fun q=>rd_T36 rs q)).bind fun bt769=>(if bt769.2.2=0 then ((carrefourref02_Cmp.f k bt769.1 bt769.2.1 a b).bind fun t773=>(if t773>0 then (some false) else (if m=true then (carrefourlaw11_CritMost.l1 k rs l true (wrap64 (i+1)) nm_ hs ps fs gs es at_ a b wi) else (carrefourlaw11_CritMost.l1 k rs l (bt769.1==a&&(bt769.2.1==b)) (wrap64 (i+1)) nm_ hs ps fs gs es at_ a b wi)))) else (carrefourlaw11_CritMost.l1 k rs l true (wrap64 (i+1)) nm_ hs ps fs gs es at_ a b wi))) r) (d:Nat) :
  ∀ j:Nat,j+d=p.length→Ev (fun k=>carrefourlaw11_CritMost.l2 k rs l m i p ((p.take j).map fun q=>rd_T36 rs q) (j:Int) nm_ hs ps fs gs es at_ a b wi) r:=by
 induction d with
 | zero =>
  intro j hj
  rw [List.take_of_length_le (by omega)]
  exact Ev.step (fun k=>by rw [carrefourlaw11_CritMost.l2]) (Ev.iten (by omega) h)
 | succ d ih =>
  intro j hj
  have hjp:j<p.length:=by omega
  have ih:=ih (j+1) (by omega)
  rw [List.take_succ_eq_append_getElem hjp,List.map_append] at ih
  obtain ⟨q0,q1⟩:=hp _ (List.getElem_mem hjp)
  have hr:rd p (j:Int)=p[j]:=by
   unfold rd
   rw [Int.toNat_natCast,List.getD_eq_getElem?_getD,List.getElem?_eq_getElem hjp];rfl
  have h1:(j:Int)<(p.length:Int):=by omega
  have h2:(0:Int)≤(j:Int):=by omega
  have h3:((p.take j).map fun q=>rd_T36 rs q).length<8796093022208:=by
   rw [List.length_map,List.length_take]
   omega
  refine Ev.step (fun k=>by rw [carrefourlaw11_CritMost.l2,hr,up1 (show j<1000000000000 by omega)]) (Ev.itep h1 (Ev.itep h2 (Ev.itep q0 (Ev.itep q1 (Ev.itep h3 ?_)))))
  exact ih
theorem most_l1 {rs:List S36} (hr:Fits rs) (hl:rs.length=fs.length) (hsm:Small fs gs) {l:List (List Int)} (hw:∀ w∈l,∃ ws,InW gs ws∧w=ints ws) (hll:l.length≤1000) {a b:Int} (ia:I64 a) (ib:I64 b) (hrt:rt a b) {bw:List Nat} (hB:BestAll fs rs gs bw) (hq:qv a b=TV fs rs gs bw) {wi:List Int} (d:Nat) :
  ∀ (i:Nat) (m:Bool),i+d=l.length→(m=true∨∃ j,i≤j∧∃ h:j<l.length,l[j]=ints bw)→Ev (fun k=>carrefourlaw11_CritMost.l1 k rs l m (i:Int) nm_ hs ps fs gs es at_ a b wi) true:=by
 induction d with
 | zero =>
  intro i m hi hm
  have hm:m=true:=by
   rcases hm with h|⟨j,h1,h2,_⟩
   ·exact h
   ·omega
  exact Ev.step (fun k=>by rw [carrefourlaw11_CritMost.l1]) (Ev.iten (by omega) (Ev.itep hm (Ev.bind awake_ev (Ev.now _))))
 | succ d ih =>
  intro i m hi hm
  have hil:i<l.length:=by omega
  obtain ⟨ws,hin,hwe⟩:=hw _ (List.getElem_mem hil)
  have hpl:=places_len (fs:=fs) (ws:=ws) hsm.rings
  have hgs:=hsm.gs0
  have hpi:∀ q∈placesOf fs gs ws,0≤q∧q<(rs.length:Int):=fun q hq=>by rw [hl];exact places_in q hq
  have hfits:Fits ((placesOf fs gs ws).map fun q=>rd_T36 rs q):=fun x hx=>by
   obtain ⟨q,hq,rfl⟩:=List.mem_map.1 hx
   obtain ⟨q0,q1⟩:=hpi q hq
   obtain ⟨n,rfl⟩:=Int.eq_ofNat_of_zero_le q0
   rw [rd_at (by omega)]
   exact hr _ (List.getElem_mem _)
  have h1:(i:Int)<(l.length:Int):=by omega
  have h2:(0:Int)≤(i:Int):=by omega
  refine Ev.step (fun k=>by rw [carrefourlaw11_CritMost.l1,rd_l hil,hwe]) (Ev.itep h1 (Ev.itep h2 (Ev.bind (way_ev nm_ hs ps fs gs es at_ hsm hin) ?_)))
  refine most_l2 nm_ hs ps fs gs es at_ (p:=placesOf fs gs ws) hpi (by omega) ?_ (placesOf fs gs ws).length 0 (by omega)
  rw [up1 (by omega)]
  have later:∀ m':Bool,(m=true→m'=true)→(l[i]=ints bw→m'=true)→(m'=true∨∃ j,i+1≤j∧∃ h:j<l.length,l[j]=ints bw):=fun m' a1 a2=>by
   rcases hm with h|⟨j,h1,h2,h3⟩
   ·exact .inl (a1 h)
   ·by_cases c:j=i
    ·subst c
     exact .inl (a2 h3)
    ·exact .inr ⟨j,by omega,h2,h3⟩
  have yes:=ih (i+1) true (by omega) (.inl rfl)
  refine Ev.bind (rsum_ev hfits (by rw [List.length_map];omega)) ?_
  by_cases c:(sumS ((placesOf fs gs ws).map fun q=>rd_T36 rs q) 0 1).2.2=0
  ·obtain ⟨s1,s2,s3,s4⟩:=sum_fits hfits c
   rw [places_sum] at s4
   have hcmp:=cmp_pos s1 s2 ia ib
   rw [rv_of hrt,rv_of s3,s4,hq] at hcmp
   have hno:¬ cmpS (sumS ((placesOf fs gs ws).map fun q=>rd_T36 rs q) 0 1).1 (sumS ((placesOf fs gs ws).map fun q=>rd_T36 rs q) 0 1).2.1 a b>0:=fun h=>by
    have h1:=hcmp.1 h
    have h2:=best_most hB hin
    grind
   refine Ev.itep c (Ev.bind (rCmp_ev s1 s2 ia ib) (Ev.iten hno ?_))
   cases m with
   | true=>exact Ev.itep rfl yes
   | false =>
    refine Ev.iten (by decide) (ih (i+1) _ (by omega) (later _ (fun h=>by cases h) fun h=>?_))
    have e:ints ws=ints bw:=by rw [← hwe,h]
    have e:ws=bw:=List.map_inj_right (fun x y h=>by omega) |>.1 e
    subst e
    obtain ⟨z1,z2⟩:=rt_one s1 s2 ia ib s3 hrt (by rw [s4,hq])
    rw [z1,z2]
    simp
  ·exact Ev.iten c yes
theorem most_l0 {rs:List S36} (hr:Fits rs) (hsm:Small fs gs) (h5:gs.length≤5) (d:Nat):∀ i:Nat,i+d=gs.length→(∀ j:Nat,j<i→(rd_T33 gs (j:Int)).f0.length≤2)→Ev (fun k=>carrefourlaw11_CritMost.l0 k rs (i:Int) nm_ hs ps fs gs es at_) true:=by
 induction d with
 | zero =>
  intro i hi hb
  have h2:∀ g∈gs,g.f0.length≤2:=fun g hg=>by
   obtain ⟨n,hn,rfl⟩:=List.getElem_of_mem hg
   have:=hb n (by omega)
   rwa [rd_gr hn] at this
  obtain ⟨⟨a,b,wi,e⟩,hS,hA,_⟩:=Sum_says nm_ hs ps fs gs es at_ hr hsm
  refine Ev.step (fun k=>by rw [carrefourlaw11_CritMost.l0]) (Ev.iten (by omega) (Ev.bind hS ?_))
  by_cases c:e=0
  ·obtain ⟨hl,ia,ib,hrt,bw,hB,hq,_⟩:=hA c
   have hw:=ways_ev nm_ hs ps fs gs es at_ h5 h2 gs.length 0 (by omega)
   rw [List.drop_zero] at hw
   have hwl:=ways_len h2
   have hp:2 ^ gs.length≤32:=Nat.le_trans (Nat.pow_le_pow_right (by decide) h5) (by decide)
   obtain ⟨j,hj,hje⟩:=List.getElem_of_mem (ways_mem.2 ⟨bw,best_in hB,rfl⟩)
   exact Ev.itep c (Ev.bind hw (most_l1 nm_ hs ps fs gs es at_ hr hl hsm (fun w h=>ways_mem.1 h) (by omega) ia ib hrt hB hq (waysF gs).length 0 false (by omega) (.inr ⟨j,by omega,hj,hje⟩)))
  ·exact Ev.iten c (Ev.bind awake_ev (Ev.now _))
 | succ d ih =>
  intro i hi hb
  have hig:i<gs.length:=by omega
  have h1:(i:Int)<(gs.length:Int):=by omega
  have h2:(0:Int)≤(i:Int):=by omega
  refine Ev.step (fun k=>by rw [carrefourlaw11_CritMost.l0,up1 (show i<1000000000000 by omega)]) (Ev.itep h1 (Ev.itep h2 ?_))
  by_cases c:(((rd_T33 gs (i:Int)).f0).length:Int)>2
  ·exact Ev.itep c (Ev.bind awake_ev (Ev.now _))
  ·refine Ev.iten c (ih (i+1) (by omega) fun j hj=>?_)
   by_cases e:j=i
   ·subst e;omega
   ·exact hb j (by omega)
end
theorem wf_i64 {x:Int} (h:(Lit.int .i64 x).wf=true):I64 x:=by
 simp [Lit.wf,IntKind.min,IntKind.max,IntKind.signed,IntKind.bits] at h
 exact ⟨by omega,by omega⟩
theorem CritMost (nm_:ByteArray) (hs:List S96) (ps:List S98) (fs:List S61) (gs:List S33) (es:List S100) (at_:Int) (rs:List S36) {P0 P1 P2 P3 P4 P5 P6 P7:Prop} (h0:P0) (h1:P1) (h2:P2) (h3:P3) (h4:P4) (h5:P5) (h6:P6) (h7:P7∧∀ a∈rs,(Lit.int .i64 a.f0).wf=true∧(Lit.int .i64 a.f1).wf=true):∃ k,carrefourlaw11_CritMost.f k nm_ hs ps fs gs es at_ rs=some true:=by
 have hr:Fits rs:=fun x hx=>⟨wf_i64 (h7.2 x hx).1,wf_i64 (h7.2 x hx).2⟩
 suffices h:Ev (fun k=>carrefourlaw11_CritMost.f k nm_ hs ps fs gs es at_ rs) true by obtain ⟨K,h⟩:=h;exact ⟨K,h K (Nat.le_refl _)⟩
 obtain ⟨t,ht,hs_⟩:=few_says nm_ hs ps fs gs es at_ rs
 have no:Ev (fun k=>carrefourlaw11_CritMost.j0 k rs true nm_ hs ps fs gs es at_) true:=Ev.step (fun k=>by rw [carrefourlaw11_CritMost.j0]) (Ev.itep rfl (Ev.now _))
 refine Ev.bind ht ?_
 cases t with
 | false=>exact Ev.iten (by decide) no
 | true =>
  obtain ⟨_,hsm⟩:=hs_ rfl
  refine Ev.itep rfl ?_
  by_cases c:(gs.length:Int)>5
  ·rw [decide_eq_true c]
   exact no
  ·rw [decide_eq_false c]
   have:=most_l0 nm_ hs ps fs gs es at_ hr hsm (by omega) gs.length 0 (by omega) (fun j hj=>by omega)
   exact Ev.step (f:=fun k=>carrefourlaw11_CritMost.l0 k rs ((0:Nat):Int) nm_ hs ps fs gs es at_) (fun k=>by rw [carrefourlaw11_CritMost.j0,if_neg (by decide)];rfl) this
end Go.Proofs.YtenphnkiacfmiaaDoor.Pure
