/- crit.Sum: which ring of each group it takes, and what its sum is.
   Conditions: as each theorem's head says. -/
import Derived.Test.YtenphnkiacfmiaaDoorP11a
namespace Go.Proofs.YtenphnkiacfmiaaDoor.Pure
set_option linter.unusedVariables false
open Go.RowKit Go.Proofs.YtenphnkiacfmiaaDoor.X Go.Proofs.YtenphnkiacfmiaaDoorW.PrintWords Go.Proofs.YtenphnkiacfmiaaDoorW.PrintLast Go.Proofs.YtenphnkiacfmiaaDoorW.PrintMore
theorem up1 {i:Nat} (h:i<1000000000000):wrap64 ((i:Int)+1)=((i+1:Nat):Int):=by rw [w64 (by omega) (by omega)];rfl
def pl (fs:List S61) (s:ByteArray):Int:=idxA (fun x:S61=>x.f0.toList==s.toList) fs
theorem idxA_range {α:Type} (p:α→Bool) (l:List α):idxA p l=-1∨(0≤idxA p l∧idxA p l<(l.length:Int)):=by
 unfold idxA
 cases h:l.any p with
 | false=>exact .inl (if_neg (by decide))
 | true =>
  rw [if_pos rfl]
  refine .inr ⟨by omega,?_⟩
  obtain ⟨x,hx,hp⟩:=List.any_eq_true.1 h
  have:=List.findIdx_lt_length_of_exists ⟨x,hx,hp⟩
  omega
theorem pl_range (fs:List S61) (s:ByteArray):pl fs s=-1∨(0≤pl fs s∧pl fs s<(fs.length:Int)):=idxA_range _ fs
section
variable (nm_:ByteArray) (hs:List S96) (ps:List S98) (fs:List S61) (gs:List S33) (es:List S100) (at_:Int)
theorem vPhase_f (h:fs.length≤50) (s:ByteArray):valid_Phase.f nm_ hs ps fs gs es at_ s=some (pl fs s):=by
 unfold valid_Phase.f
 rw [if_pos (by omega)]
 rfl
def plc (ss:List ByteArray):List Int:=ss.filterMap fun s=>if pl fs s≥0 then some (pl fs s) else none
def rowOf (rs:List S36) (ss:List ByteArray):List S36:=(plc fs ss).map fun p=>rd_T36 rs p
theorem rowOf_fits {rs:List S36} (hr:Fits rs) (hl:rs.length=fs.length) (ss:List ByteArray):Fits (rowOf fs rs ss):=by
 intro x hx
 unfold rowOf plc at hx
 obtain ⟨p,hp,rfl⟩:=List.mem_map.1 hx
 obtain ⟨s,_,hs⟩:=List.mem_filterMap.1 hp
 by_cases c:pl fs s≥0
 ·rw [if_pos c] at hs
  obtain rfl:=Option.some.inj hs
  rcases pl_range fs s with h|⟨h0,h1⟩
  ·omega
  ·obtain ⟨i,hi⟩:=Int.eq_ofNat_of_zero_le h0
   rw [hi] at h1 ⊢
   rw [rd_at (by omega)]
   exact hr _ (List.getElem_mem _)
 ·rw [if_neg c] at hs
  cases hs
theorem plc_le (ss:List ByteArray):(plc fs ss).length≤ss.length:=List.length_filterMap_le _ _
theorem rd_str {l:List ByteArray} {i:Nat} (h:i<l.length):rdOf ByteArray.empty l (i:Int)=l[i]:=by
 unfold rdOf
 rw [Int.toNat_natCast,List.getD_eq_getElem?_getD,List.getElem?_eq_getElem h];rfl
theorem ring_loop {rs:List S36} (hr:Fits rs) (hl:rs.length=fs.length) (hf:fs.length≤50) {ss:List ByteArray} (hs_:ss.length≤50) (d:Nat):∀ (i:Nat),i+d=ss.length→Ev (fun k=>crit_ring.l0 k rs (rowOf fs rs (ss.take i)) ss (ss.length:Int) (i:Int) nm_ hs ps fs gs es at_) (sumS (rowOf fs rs ss) 0 1):=by
 induction d with
 | zero =>
  intro i hi
  rw [List.take_of_length_le (by omega)]
  refine Ev.step (fun k=>by rw [crit_ring.l0]) (Ev.iten (by omega) (Ev.bind (fsum_ev (rowOf_fits fs hr hl ss) ?_) (Ev.now _)))
  unfold rowOf
  rw [List.length_map]
  have:=plc_le fs ss
  omega
 | succ d ih =>
  intro i hi
  have ih:=ih (i+1) (by omega)
  have hlen:(rowOf fs rs (ss.take i)).length≤50:=by
   unfold rowOf
   rw [List.length_map]
   have:=plc_le fs (ss.take i)
   rw [List.length_take] at this
   omega
  have et:ss.take (i+1)=ss.take i++[ss[i]]:=by rw [List.take_succ_eq_append_getElem]
  refine Ev.step (fun k=>by rw [crit_ring.l0,rd_str (by omega),up1 (by omega)]) (Ev.itep (by omega) (Ev.itep (by omega) (Ev.itep (by omega) (Ev.bindc (vPhase_f nm_ hs ps fs gs es at_ hf _) ?_))))
  unfold rowOf plc at ih hlen ⊢
  rw [et,List.filterMap_append,List.map_append] at ih
  generalize ss[i]=s at ih ⊢
  by_cases c:pl fs s≥0
  ·rcases pl_range fs s with h|⟨h0,h1⟩
   ·omega
   ·refine Ev.itep c (Ev.itep c (Ev.itep (by rw [hl];exact h1) (Ev.itep (by omega) ?_)))
    rw [show [s].filterMap (fun s=>if pl fs s≥0 then some (pl fs s) else none)=[pl fs s] from by simp [c]] at ih
    exact ih
  ·refine Ev.iten c ?_
   rw [show [s].filterMap (fun s=>if pl fs s≥0 then some (pl fs s) else none)=[] from by simp [c],List.map_nil,List.append_nil] at ih
   exact ih
theorem ring_ev {rs:List S36} (hr:Fits rs) (hl:rs.length=fs.length) (hf:fs.length≤50) {ss:List ByteArray} (hs_:ss.length≤50) (b:Bool):Ev (fun k=>crit_ring.f k nm_ hs ps fs gs es at_ b ss rs) (sumS (rowOf fs rs ss) 0 1):=by
 have:=ring_loop nm_ hs ps fs gs es at_ hr hl hf hs_ ss.length 0 (by omega)
 rw [List.take_zero] at this
 exact this
end
theorem greatest_loop {l:List S36} (hl:Fits l) (hn:l.length≤50) (d:Nat):∀ (i at_:Nat),i+d=l.length→at_<l.length→(∀ j:Nat,(h:j<i)→(h2:j<l.length)→rv l[j]≤rv (rd_T36 l (at_:Int))) →
  TP (fun k=>crit_greatest.l0 k l (at_:Int) l (l.length:Int) (i:Int)) fun r=>∃ w:Nat,r=(w:Int)∧w<l.length∧∀ j:Nat,(h:j<l.length)→rv l[j]≤rv (rd_T36 l r):=by
 induction d with
 | zero =>
  intro i w hi hw hb
  exact TP.step (fun k=>by rw [crit_greatest.l0]) (TP.iten (by omega) (TP.now ⟨w,rfl,hw,fun j h=>hb j (by omega) h⟩))
 | succ d ih =>
  intro i w hi hw hb
  obtain ⟨x0,x1⟩:=hl l[i] (List.getElem_mem (by omega))
  obtain ⟨y0,y1⟩:=hl l[w] (List.getElem_mem hw)
  have hc:=cmp_pos x0 x1 y0 y1
  refine TP.step (fun k=>by rw [crit_greatest.l0,rd_at (show i<l.length by omega),rd_at hw,up1 (by omega)]) (TP.itep (by omega) (TP.itep (by omega) (TP.itep (by omega) (TP.itep (by omega) (TP.itep (by omega) (TP.bind (TP.of (fCmp_ev x0 x1 y0 y1) rfl) ?_))))))
  rintro t rfl
  refine TP.ite (fun c=>?_) (fun c=>?_)
  ·have hlt:=hc.1 c
   refine ih (i+1) i (by omega) (by omega) (fun j h h2=>?_)
   rw [rd_at (by omega)]
   by_cases e:j=i
   ·subst e;grind
   ·have:=hb j (by omega) h2
    rw [rd_at hw] at this
    have e1:rv l[w]<rv l[i]:=hlt
    grind
  ·have hle:¬ rv l[w]<rv l[i]:=fun h=>c (hc.2 h)
   refine ih (i+1) w (by omega) hw (fun j h h2=>?_)
   by_cases e:j=i
   ·subst e
    rw [rd_at hw]
    grind
   ·exact hb j (by omega) h2
theorem greatest_ev {l:List S36} (hl:Fits l) (hn:l.length≤50) (h1:1≤l.length):TP (fun k=>crit_greatest.f k l) fun r=>∃ w:Nat,r=(w:Int)∧w<l.length∧∀ j:Nat,(h:j<l.length)→rv l[j]≤rv (rd_T36 l r) :=
 greatest_loop hl hn l.length 0 0 (by omega) (by omega) (fun j h=>by omega)
def ringOf (g:S33) (w:Nat):List ByteArray:=(g.f0.getD w z63).f1
structure Best (fs:List S61) (rs:List S36) (g:S33) (w:Nat):Prop where
 lt:w<g.f0.length
 fits:∀ k,k<g.f0.length→(sumS (rowOf fs rs (ringOf g k)) 0 1).2.2=0
 most:∀ k,k<g.f0.length→SV (rowOf fs rs (ringOf g k))≤SV (rowOf fs rs (ringOf g w))
def TV (fs:List S61) (rs:List S36):List S33→List Nat→Rat
 | g::gs,w::ws=>SV (rowOf fs rs (ringOf g w))+TV fs rs gs ws
 | _,_=>0
def BestAll (fs:List S61) (rs:List S36):List S33→List Nat→Prop
 | [],[]=>True
 | g::gs,w::ws=>Best fs rs g w∧BestAll fs rs gs ws
 | _,_=>False
theorem best_snoc {fs:List S61} {rs:List S36}:∀ {gs:List S33} {ws:List Nat} {g:S33} {w:Nat},BestAll fs rs gs ws→Best fs rs g w→BestAll fs rs (gs++[g]) (ws++[w])∧TV fs rs (gs++[g]) (ws++[w])=TV fs rs gs ws+SV (rowOf fs rs (ringOf g w))
 | [],[],g,w,_,h=>⟨⟨h,trivial⟩,by show SV _+0=0+SV _;grind⟩
 | a::t,b::u,g,w,h,hb=>by
  obtain ⟨h1,h2⟩:=best_snoc h.2 hb
  refine ⟨⟨h.1,h1⟩,?_⟩
  show SV _+TV fs rs (t++[g]) (u++[w])=(SV _+TV fs rs t u)+SV _
  rw [h2]
  grind
 | [],_::_,_,_,h,_=>h.elim
 | _::_,[],_,_,h,_=>h.elim
def bsOf (fs:List S61) (rs:List S36):List S33→List Nat→List S36
 | g::gs,w::ws=>⟨(sumS (rowOf fs rs (ringOf g w)) 0 1).1,(sumS (rowOf fs rs (ringOf g w)) 0 1).2.1⟩::bsOf fs rs gs ws
 | _,_=>[]
theorem bs_snoc {fs:List S61} {rs:List S36}:∀ {gs:List S33} {ws:List Nat} {g:S33} {w:Nat},BestAll fs rs gs ws→bsOf fs rs (gs++[g]) (ws++[w])=bsOf fs rs gs ws++[⟨(sumS (rowOf fs rs (ringOf g w)) 0 1).1,(sumS (rowOf fs rs (ringOf g w)) 0 1).2.1⟩]
 | [],[],g,w,_=>rfl
 | a::t,b::u,g,w,h=>by
  show _::bsOf fs rs (t++[g]) (u++[w])=_::(bsOf fs rs t u++_)
  rw [bs_snoc h.2]
 | [],_::_,_,_,h=>h.elim
 | _::_,[],_,_,h=>h.elim
def SumSays (fs:List S61) (rs:List S36) (gs:List S33) (r:Int × Int × List Int × Int):Prop :=
 (r.2.2.2=0→rs.length=fs.length∧I64 r.1∧I64 r.2.1∧rt r.1 r.2.1∧∃ ws:List Nat,BestAll fs rs gs ws∧qv r.1 r.2.1=TV fs rs gs ws∧r.2.2.1=ws.map fun w:Nat=>(w:Int)) ∧
 (r.2.2.2≠0→rs.length≠fs.length∨(∃ g∈gs,g.f0.length=0)∨(∃ g∈gs,∃ k,k<g.f0.length∧(sumS (rowOf fs rs (ringOf g k)) 0 1).2.2≠0)∨∃ ws,BestAll fs rs gs ws∧(sumS (bsOf fs rs gs ws) 0 1).2.2≠0)
structure Small (fs:List S61) (gs:List S33):Prop where
 fs0:fs.length≤50
 gs0:gs.length≤50
 rings:∀ g∈gs,g.f0.length≤5∧∀ r∈g.f0,r.f1.length≤50
section
variable (nm_:ByteArray) (hs:List S96) (ps:List S98) (fs:List S61) (gs:List S33) (es:List S100) (at_:Int)
theorem rd_gr {l:List S33} {i:Nat} (h:i<l.length):rd_T33 l (i:Int)=l[i]:=by
 unfold rd_T33
 rw [Int.toNat_natCast,List.getD_eq_getElem?_getD,List.getElem?_eq_getElem h];rfl
theorem rd_rw (l:List S63) (i:Nat):rd_T63 l (i:Int)=l.getD i z63:=by
 unfold rd_T63
 rw [Int.toNat_natCast]
theorem ring_le {g:S33} (h:∀ r∈g.f0,r.f1.length≤50) (j:Nat):(ringOf g j).length≤50:=by
 unfold ringOf
 rw [List.getD_eq_getElem?_getD]
 by_cases c:j<g.f0.length
 ·rw [List.getElem?_eq_getElem c]
  exact h _ (List.getElem_mem c)
 ·rw [List.getElem?_eq_none (by omega)]
  exact Nat.zero_le _
theorem sum_both {rs:List S36} (hr:Fits rs) (hl:rs.length=fs.length) (hsm:Small fs gs) (hne:∀ g∈gs,1≤g.f0.length) (d:Nat):∀ (i:Nat) (bs:List S36) (ws:List Nat) (wi:List Int),i+d=gs.length→bs.length=i→wi=ws.map (fun w:Nat=>(w:Int))→wi.length=i→Fits bs→BestAll fs rs (gs.take i) ws→bs=bsOf fs rs (gs.take i) ws→SV bs=TV fs rs (gs.take i) ws →
  TP (fun k=>crit_Sum.l0 k rs bs gs (gs.length:Int) (i:Int) nm_ hs ps fs gs es at_ 0 0 wi) (SumSays fs rs gs):=by
 induction d with
 | zero =>
  intro i bs ws wi hi hbl hwm hwl hb hB hbs hT
  rw [List.take_of_length_le (by omega)] at hB hT hbs
  refine TP.step (fun k=>by rw [crit_Sum.l0]) (TP.iten (by omega) (TP.bind (TP.of (fsum_ev hb (by have:=hsm.gs0;omega)) rfl) ?_))
  rintro t rfl
  refine TP.ite (fun c=>TP.now ⟨fun _=>?_,fun h=>absurd rfl h⟩) (fun c=>TP.now ⟨fun h=>absurd h c,fun _=>.inr (.inr (.inr ⟨ws,hB,by rw [← hbs];exact c⟩))⟩)
  obtain ⟨f1,f2,f3,f4⟩:=sum_fits hb c
  exact ⟨hl,f1,f2,f3,ws,hB,by rw [f4,hT],hwm⟩
 | succ d ih =>
  intro i bs ws wi hi hbl hwm hwl hb hB hbs hT
  have hig:i<gs.length:=by omega
  have hgs:=hsm.gs0
  have hmem:gs[i]∈gs:=List.getElem_mem hig
  obtain ⟨r5,r50⟩:=hsm.rings _ hmem
  have hg1:=hne _ hmem
  have et:gs.take (i+1)=gs.take i++[gs[i]]:=by rw [List.take_succ_eq_append_getElem]
  refine TP.step (fun k=>by rw [crit_Sum.l0,rd_gr hig]) (TP.itep (by omega) (TP.itep (by omega) (TP.itep (by omega) (TP.itep (by omega) (TP.itep (by omega) ?_)))))
  have ihn:=ih (i+1)
  rw [et] at ihn
  have key:∀ (e j:Nat) (xs:List S36),j+e=gs[i].f0.length→xs.length=gs[i].f0.length→(∀ k,k<j→(sumS (rowOf fs rs (ringOf gs[i] k)) 0 1).2.2=0∧xs.getD k z36=⟨(sumS (rowOf fs rs (ringOf gs[i] k)) 0 1).1,(sumS (rowOf fs rs (ringOf gs[i] k)) 0 1).2.1⟩) →
    TP (fun k=>crit_Sum.l1 k rs bs xs gs (gs.length:Int) (i:Int) gs[i].f0 (gs[i].f0.length:Int) (j:Int) nm_ hs ps fs gs es at_ 0 0 wi) (SumSays fs rs gs):=by
   intro e
   induction e with
   | zero =>
    intro j xs hj hx hk
    have hxs:Fits xs:=fun x hx'=>by
     obtain ⟨n,hn,rfl⟩:=List.getElem_of_mem hx'
     obtain ⟨h1,h2⟩:=hk n (by omega)
     rw [List.getD_eq_getElem?_getD,List.getElem?_eq_getElem hn] at h2
     obtain ⟨f1,f2,_⟩:=sum_fits (rowOf_fits fs hr hl (ringOf gs[i] n)) h1
     have h2:xs[n]=_:=h2
     rw [h2]
     exact ⟨f1,f2⟩
    have hval:∀ n,(h:n<xs.length)→rv xs[n]=SV (rowOf fs rs (ringOf gs[i] n)):=fun n hn=>by
     obtain ⟨h1,h2⟩:=hk n (by omega)
     rw [List.getD_eq_getElem?_getD,List.getElem?_eq_getElem hn] at h2
     have h2:xs[n]=_:=h2
     obtain ⟨_,_,f3,f4⟩:=sum_fits (rowOf_fits fs hr hl (ringOf gs[i] n)) h1
     rw [h2,rv_of f3,f4]
    refine TP.step (fun k=>by rw [crit_Sum.l1]) (TP.iten (by omega) (TP.bind (greatest_ev hxs (by omega) (by omega)) ?_))
    rintro t ⟨w,rfl,hw,hbest⟩
    rw [rd_at hw] at hbest
    refine TP.bindc rfl (TP.itep (by simp;omega) (TP.itep (by omega) (TP.itep (by omega) (TP.bindc rfl (TP.itep (by simp;omega) ?_)))))
    rw [rd_at hw,up1 (by omega)]
    have hB1:Best fs rs gs[i] w:={
     lt:=by omega
     fits:=fun k hk'=>(hk k (by omega)).1
     most:=fun k hk'=>by
      have:=hbest k (by omega)
      rwa [hval k (by omega),hval w hw] at this }
    obtain ⟨s1,s2⟩:=best_snoc hB hB1
    refine ihn (bs++[⟨xs[w].f0,xs[w].f1⟩]) (ws++[w]) (wi++[(w:Int)]) (by omega) (by simp;omega) (by rw [hwm];simp) (by simp;omega) (fun x hx'=>?_) s1 ?_ ?_
    ·rcases List.mem_append.1 hx' with h|h
     ·exact hb x h
     ·rw [List.mem_singleton.1 h]
      exact hxs _ (List.getElem_mem hw)
    ·have h2:=(hk w (by omega)).2
     rw [List.getD_eq_getElem?_getD,List.getElem?_eq_getElem hw] at h2
     have h2:(⟨xs[w].f0,xs[w].f1⟩:S36)=_:=h2
     rw [bs_snoc hB,← hbs,h2]
    ·rw [SV_append,s2,hT,← hval w hw]
     show TV fs rs (gs.take i) ws+(rv xs[w]+0)=_
     grind
   | succ e ihe =>
    intro j xs hj hx hk
    have hjl:j<gs[i].f0.length:=by omega
    have q1:(j:Int)<(gs[i].f0.length:Int):=by omega
    have q2:(0:Int)≤(j:Int):=by omega
    have q3:(j:Int)<(xs.length:Int):=by omega
    have q4:j<1000000000000:=by omega
    refine TP.step (fun k=>by rw [crit_Sum.l1,rd_rw]) (TP.itep q1 (TP.itep q2 (TP.itep q1 (TP.bind (TP.of (ring_ev nm_ hs ps fs gs es at_ hr hl hsm.fs0 (ss:=(gs[i].f0.getD j z63).f1) (ring_le r50 j) _) rfl) ?_))))
    rintro t rfl
    refine TP.ite (fun c=>TP.itep q3 ?_) (fun c=>TP.now ⟨fun h=>absurd h c,fun _=>.inr (.inr (.inl ⟨_,hmem,j,hjl,c⟩))⟩)
    rw [up1 q4,Int.toNat_natCast]
    refine ihe (j+1) _ (by omega) (by rw [List.length_set];exact hx) (fun k hk'=>?_)
    rw [List.getD_eq_getElem?_getD,List.getElem?_set]
    by_cases ck:j=k
    ·subst ck
     rw [if_pos rfl,if_pos (by omega)]
     exact ⟨c,rfl⟩
    ·rw [if_neg ck,← List.getD_eq_getElem?_getD]
     exact hk k (by omega)
  have:=key gs[i].f0.length 0 (List.replicate gs[i].f0.length z36) (by omega) (by simp) (fun k h=>by omega)
  rw [Int.toNat_natCast]
  exact this
theorem Sum_says {rs:List S36} (hr:Fits rs) (hsm:Small fs gs):TP (fun k=>crit_Sum.f k nm_ hs ps fs gs es at_ rs) (SumSays fs rs gs):=by
 have no:(rs.length≠fs.length∨∃ g∈gs,g.f0.length=0)→TP (fun k=>crit_Sum.j0 k rs true nm_ hs ps fs gs es at_) (SumSays fs rs gs):=fun hh=>TP.step (fun k=>by rw [crit_Sum.j0]) (TP.itep rfl (TP.now ⟨fun h=>absurd h (by decide),fun _=>hh.elim .inl fun h=>.inr (.inl h)⟩))
 refine TP.ite (fun c=>TP.bindc (a:=gs.any fun x=>x.f0.length==0) (by show (if gs.length≤1000000000 then _ else _)=_;rw [if_pos (by have:=hsm.gs0;omega)]) ?_) (fun c=>no (.inl (by omega)))
 cases ca:gs.any fun x=>x.f0.length==0 with
 | true =>
  obtain ⟨g,hg,h0⟩:=List.any_eq_true.1 ca
  exact no (.inr ⟨g,hg,by simpa using h0⟩)
 | false =>
  have hne:∀ g∈gs,1≤g.f0.length:=fun g hg=>by
   by_cases c0:g.f0.length=0
   ·rw [List.any_eq_true.2 ⟨g,hg,by simp [c0]⟩] at ca
    cases ca
   ·omega
  have:=sum_both nm_ hs ps fs gs es at_ hr (by omega) hsm hne gs.length 0 [] [] [] (by omega) rfl rfl rfl (fun x hx=>by cases hx) (by rw [List.take_zero];trivial) (by rw [List.take_zero];rfl) (by rw [List.take_zero];rfl)
  exact TP.step (f:=fun k=>crit_Sum.l0 k rs [] gs (gs.length:Int) ((0:Nat):Int) nm_ hs ps fs gs es at_ 0 0 []) (fun k=>by rw [crit_Sum.j0,if_neg (by decide)];rfl) this
end
end Go.Proofs.YtenphnkiacfmiaaDoor.Pure
