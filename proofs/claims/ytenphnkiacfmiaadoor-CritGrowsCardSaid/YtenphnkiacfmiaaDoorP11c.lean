/- carrefourlaw06.Few answers, and what it lets in: the sizes of a node's groups and rings.
   Conditions: as each theorem's head says. -/
import Derived.Test.YtenphnkiacfmiaaDoorP11b
namespace Go.Proofs.YtenphnkiacfmiaaDoor.Pure
set_option linter.unusedVariables false
open Go.RowKit Go.Proofs.YtenphnkiacfmiaaDoor.X Go.Proofs.YtenphnkiacfmiaaDoorW.PrintWords Go.Proofs.YtenphnkiacfmiaaDoorW.PrintLast Go.Proofs.YtenphnkiacfmiaaDoorW.PrintMore
def TS (g:Nat→Option Bool) (P:Prop):Prop:=TP g fun r=>r=true→P
theorem TS.no {P:Prop}:TS (fun _=>some false) P:=TP.now fun h=>by cases h
theorem TS.yes {P:Prop} (r:Bool) (h:r=true→P):TS (fun _=>some r) P:=TP.now h
theorem TS.ite {c:Prop} [Decidable c] {A B:Nat→Option Bool} {P:Prop} (h:c→TS A P) (k:¬ c→TS B P):TS (fun n=>if c then A n else B n) P:=TP.ite h k
theorem TS.bind {g:Nat→Option Bool} {f:Nat→Bool→Option Bool} {Q P:Prop} (h:TS g Q) (k:∀ t,(t=true→Q)→TS (fun n=>f n t) P):TS (fun n=>(g n).bind (f n)) P:=TP.bind h k
theorem TS.step {g f:Nat→Option Bool} {P:Prop} (h:∀ k,g (k+1)=f k) (k:TS f P):TS g P:=TP.step h k
theorem strings_l0 (l:List ByteArray) (d:Nat):∀ i:Nat,i+d=50→TS (fun k=>carrefourlaw06_strings.l0 k l (i:Int)) (l.length≤50):=by
 have no:∀ i:Nat,TS (fun k=>carrefourlaw06_strings.j1 k l (i:Int) false) (l.length≤50):=fun i=>TS.step (f:=fun _=>some (decide ((l.length:Int)≤50))) (fun k=>by simp only [carrefourlaw06_strings.j1];rw [if_neg (by decide)]) (TS.yes _ fun h=>by have:=of_decide_eq_true h;omega)
 induction d with
 | zero =>
  intro i hi
  refine TS.step (f:=fun k=>if (i:Int)<(l.length:Int) then carrefourlaw06_strings.j1 k l (i:Int) (decide ((i:Int)<50)) else carrefourlaw06_strings.j1 k l (i:Int) false) (fun k=>by simp only [carrefourlaw06_strings.l0]) (TS.ite (fun _=>?_) (fun _=>no i))
  rw [decide_eq_false (by omega)]
  exact no i
 | succ d ih =>
  intro i hi
  refine TS.step (f:=fun k=>if (i:Int)<(l.length:Int) then carrefourlaw06_strings.j1 k l (i:Int) (decide ((i:Int)<50)) else carrefourlaw06_strings.j1 k l (i:Int) false) (fun k=>by simp only [carrefourlaw06_strings.l0]) (TS.ite (fun hl=>?_) (fun _=>no i))
  rw [decide_eq_true (by omega)]
  refine TS.step (f:=fun k=>if ((rdOf ByteArray.empty l (i:Int)).size:Int)>100 then some false else carrefourlaw06_strings.l0 k l ((i+1:Nat):Int)) (fun k=>?_) (TS.ite (fun _=>TS.no) (fun _=>ih (i+1) (by omega)))
  simp only [carrefourlaw06_strings.j1]
  rw [if_pos trivial,if_pos (Int.natCast_nonneg _),if_pos hl,up1 (by omega)]
theorem strings_some (l:List ByteArray):TS (fun k=>carrefourlaw06_strings.f k l) (l.length≤50):=strings_l0 l 50 0 (by omega)
def Gok (g:S33):Prop:=g.f0.length≤5∧∀ k:Nat,k<g.f0.length→(rd_T63 g.f0 (k:Int)).f1.length≤50
section
variable (nm_:ByteArray) (hs:List S96) (ps:List S98) (fs:List S61) (gs:List S33) (es:List S100) (at_:Int)
theorem node_l5 {P:Prop} (hP:P) (h5:es.length≤80) (d:Nat):∀ i:Nat,es.length=i+d→TS (fun k=>carrefourlaw06_node.l5 k (i:Int) nm_ hs ps fs gs es at_) P:=by
 induction d with
 | zero =>
  intro i hi
  exact TS.step (f:=fun _=>some true) (fun k=>by simp only [carrefourlaw06_node.l5];rw [if_neg (by omega)]) (TS.yes _ fun _=>hP)
 | succ d ih =>
  intro i hi
  refine TS.step (fun k=>?_) (TS.bind (strings_some [(rd_T100 es (i:Int)).f0,(rd_T100 es (i:Int)).f1]) (f:=fun k t=>if t=true then carrefourlaw06_node.l5 k ((i+1:Nat):Int) nm_ hs ps fs gs es at_ else some false) (fun t ht=>TS.ite (fun _=>ih (i+1) (by omega)) (fun _=>TS.no)))
  simp only [carrefourlaw06_node.l5]
  rw [if_pos (by omega),if_pos (by omega),up1 (by omega)]
theorem node_l4 {P:Prop} (i:Nat) (hi:i<gs.length) (hr:(rd_T33 gs (i:Int)).f0.length≤5) (K:Gok (rd_T33 gs (i:Int))→TS (fun k=>carrefourlaw06_node.l3 k (wrap64 ((i:Int)+1)) nm_ hs ps fs gs es at_) P) (d:Nat):∀ j:Nat,(∀ k:Nat,k<j→(rd_T63 (rd_T33 gs (i:Int)).f0 (k:Int)).f1.length≤50)→(rd_T33 gs (i:Int)).f0.length=j+d→TS (fun k=>carrefourlaw06_node.l4 k (i:Int) (j:Int) nm_ hs ps fs gs es at_) P:=by
 have g1:(0:Int)≤(i:Int):=by omega
 have g2:(i:Int)<(gs.length:Int):=by omega
 induction d with
 | zero =>
  intro j hk hj
  refine TS.step (fun k=>?_) (K ⟨hr,fun k h=>hk k (by omega)⟩)
  simp only [carrefourlaw06_node.l4]
  rw [if_pos g1,if_pos g2,if_neg (by omega)]
 | succ d ih =>
  intro j hk hj
  refine TS.step (fun k=>?_) (TS.bind (strings_some (rd_T63 (rd_T33 gs (i:Int)).f0 (j:Int)).f1) (f:=fun k t=>if t=true then carrefourlaw06_node.l4 k (i:Int) ((j+1:Nat):Int) nm_ hs ps fs gs es at_ else some false) (fun t ht=>TS.ite (fun c=>ih (j+1) (fun k h=>by
   by_cases e:k=j
   ·rw [e];exact ht c
   ·exact hk k (by omega)) (by omega)) (fun _=>TS.no)))
  simp only [carrefourlaw06_node.l4]
  rw [if_pos g1,if_pos g2,if_pos (by omega),if_pos (by omega),up1 (by omega)]
theorem node_l3 {P:Prop} (hP:(∀ k:Nat,k<gs.length→Gok (rd_T33 gs (k:Int)))→P) (h4:gs.length≤50) (h5:es.length≤80) (d:Nat):∀ i:Nat,(∀ k:Nat,k<i→Gok (rd_T33 gs (k:Int)))→gs.length=i+d→TS (fun k=>carrefourlaw06_node.l3 k (i:Int) nm_ hs ps fs gs es at_) P:=by
 induction d with
 | zero =>
  intro i hk hi
  refine TS.step (fun k=>?_) (node_l5 nm_ hs ps fs gs es at_ (hP fun k h=>hk k (by omega)) h5 es.length 0 (by omega))
  simp only [carrefourlaw06_node.l3]
  rw [if_neg (by omega)]
  rfl
 | succ d ih =>
  intro i hk hi
  refine TS.step (f:=fun k=>if (((rd_T33 gs (i:Int)).f0).length:Int)>5 then some false else carrefourlaw06_node.l4 k (i:Int) ((0:Nat):Int) nm_ hs ps fs gs es at_) (fun k=>?_) (TS.ite (fun _=>TS.no) (fun hr=>node_l4 nm_ hs ps fs gs es at_ i (by omega) (by omega) (fun hg=>by
   rw [up1 (by omega)]
   exact ih (i+1) (fun k h=>by
    by_cases e:k=i
    ·rw [e];exact hg
    ·exact hk k (by omega)) (by omega)) (rd_T33 gs (i:Int)).f0.length 0 (fun k h=>by omega) (by omega)))
  simp only [carrefourlaw06_node.l3]
  rw [if_pos (by omega),if_pos (by omega)]
  rfl
theorem node_l2 {P:Prop} (hP:(∀ k:Nat,k<gs.length→Gok (rd_T33 gs (k:Int)))→P) (h3:fs.length≤50) (h4:gs.length≤50) (h5:es.length≤80) (d:Nat):∀ i:Nat,fs.length=i+d→TS (fun k=>carrefourlaw06_node.l2 k (i:Int) nm_ hs ps fs gs es at_) P:=by
 induction d with
 | zero =>
  intro i hi
  refine TS.step (fun k=>?_) (node_l3 nm_ hs ps fs gs es at_ hP h4 h5 gs.length 0 (fun k h=>by omega) (by omega))
  simp only [carrefourlaw06_node.l2]
  rw [if_neg (by omega)]
  rfl
 | succ d ih =>
  intro i hi
  refine TS.step (fun k=>?_) (TS.bind (strings_some [(rd_T61 fs (i:Int)).f0]) (f:=fun k t=>if t=true then ((carrefourlaw06_strings.f k ((rd_T61 fs (i:Int)).f1)).bind fun t197=>(if t197=true then carrefourlaw06_node.l2 k ((i+1:Nat):Int) nm_ hs ps fs gs es at_ else some false)) else some false) (fun t ht=>TS.ite (fun _=>TS.bind (strings_some _) (fun t ht=>TS.ite (fun _=>ih (i+1) (by omega)) (fun _=>TS.no))) (fun _=>TS.no)))
  simp only [carrefourlaw06_node.l2]
  rw [if_pos (by omega),if_pos (by omega),up1 (by omega)]
theorem node_l1 {P:Prop} (hP:(∀ k:Nat,k<gs.length→Gok (rd_T33 gs (k:Int)))→P) (h2:ps.length≤50) (h3:fs.length≤50) (h4:gs.length≤50) (h5:es.length≤80) (d:Nat):∀ i:Nat,ps.length=i+d→TS (fun k=>carrefourlaw06_node.l1 k (i:Int) nm_ hs ps fs gs es at_) P:=by
 induction d with
 | zero =>
  intro i hi
  refine TS.step (fun k=>?_) (node_l2 nm_ hs ps fs gs es at_ hP h3 h4 h5 fs.length 0 (by omega))
  simp only [carrefourlaw06_node.l1]
  rw [if_neg (by omega)]
  rfl
 | succ d ih =>
  intro i hi
  refine TS.step (fun k=>?_) (TS.bind (strings_some [(rd_T98 ps (i:Int)).f0,(rd_T98 ps (i:Int)).f1]) (f:=fun k t=>if t=true then carrefourlaw06_node.l1 k ((i+1:Nat):Int) nm_ hs ps fs gs es at_ else some false) (fun t ht=>TS.ite (fun _=>ih (i+1) (by omega)) (fun _=>TS.no)))
  simp only [carrefourlaw06_node.l1]
  rw [if_pos (by omega),if_pos (by omega),up1 (by omega)]
theorem node_l0 {P:Prop} (hP:(∀ k:Nat,k<gs.length→Gok (rd_T33 gs (k:Int)))→P) (h1:hs.length≤50) (h2:ps.length≤50) (h3:fs.length≤50) (h4:gs.length≤50) (h5:es.length≤80) (d:Nat):∀ (i:Nat) (x:List ByteArray),hs.length=i+d→x.length=i+1→TS (fun k=>carrefourlaw06_node.l0 k x (i:Int) nm_ hs ps fs gs es at_) P:=by
 induction d with
 | zero =>
  intro i x hi hx
  have hm:mn (x.length:Int) 50=((min x.length 50:Nat):Int):=by unfold mn;omega
  refine TS.step (fun k=>?_) (TS.bind (strings_some (x.take (min x.length 50))) (f:=fun k t=>if t=true then carrefourlaw06_node.l1 k 0 nm_ hs ps fs gs es at_ else some false) (fun t ht=>TS.ite (fun _=>node_l1 nm_ hs ps fs gs es at_ hP h2 h3 h4 h5 ps.length 0 (by omega)) (fun _=>TS.no)))
  simp only [carrefourlaw06_node.l0]
  rw [if_neg (by omega),hm,if_pos (by omega),if_pos (by omega),Int.toNat_natCast]
 | succ d ih =>
  intro i x hi hx
  refine TS.step (fun k=>?_) (ih (i+1) (x++[(rd_T96 hs (i:Int)).f0]) (by omega) (by simp;omega))
  simp only [carrefourlaw06_node.l0]
  rw [if_pos (by omega),if_pos (by omega),if_pos (by omega),up1 (by omega)]
theorem node_some:TS (fun k=>carrefourlaw06_node.f k nm_ hs ps fs gs es at_) (Small fs gs):=by
 have yes:TS (fun k=>carrefourlaw06_node.j0 k true nm_ hs ps fs gs es at_) (Small fs gs):=TS.step (f:=fun _=>some false) (fun k=>by simp only [carrefourlaw06_node.j0];rw [if_pos trivial]) TS.no
 unfold carrefourlaw06_node.f
 refine TS.ite (fun _=>yes) (fun h1=>TS.ite (fun _=>yes) (fun h2=>TS.ite (fun _=>yes) (fun h3=>TS.ite (fun _=>yes) (fun h4=>?_))))
 by_cases h5:(es.length:Int)>80
 ·rw [decide_eq_true h5];exact yes
 ·rw [decide_eq_false h5]
  refine TS.step (fun k=>?_) (node_l0 nm_ hs ps fs gs es at_ (fun h=>⟨by omega,by omega,fun g hg=>by
   obtain ⟨n,hn,rfl⟩:=List.getElem_of_mem hg
   obtain ⟨a,b⟩:=h n hn
   rw [rd_gr hn] at a b
   exact ⟨a,fun r hr=>by
    obtain ⟨m,hm,rfl⟩:=List.getElem_of_mem hr
    have:=b m hm
    rwa [rd_rw,List.getD_eq_getElem?_getD,List.getElem?_eq_getElem hm] at this⟩⟩) (by omega) (by omega) (by omega) (by omega) (by omega) hs.length 0 [nm_] (by omega) rfl)
  simp only [carrefourlaw06_node.j0]
  rw [if_neg (by decide)]
  rfl
end
section
variable (mn_ mx_ st pn pd:Int) (ns:List S28) (ss:List S87) (wo wi:Int)
theorem few_l1 {P:Prop} (hP:P) (h2:ss.length≤15) (d:Nat):∀ i:Nat,ss.length=i+d→TS (fun k=>carrefourlaw06_Few.l1 k (i:Int) mn_ mx_ st pn pd ns ss wo wi) P:=by
 induction d with
 | zero =>
  intro i hi
  exact TS.step (f:=fun _=>some true) (fun k=>by simp only [carrefourlaw06_Few.l1];rw [if_neg (by omega)]) (TS.yes _ fun _=>hP)
 | succ d ih =>
  intro i hi
  refine TS.step (fun k=>?_) (TS.bind (strings_some [(rd_T87 ss (i:Int)).f0,(rd_T87 ss (i:Int)).f1,(rd_T87 ss (i:Int)).f2]) (f:=fun k t=>if t=true then carrefourlaw06_Few.l1 k ((i+1:Nat):Int) mn_ mx_ st pn pd ns ss wo wi else some false) (fun t ht=>TS.ite (fun _=>ih (i+1) (by omega)) (fun _=>TS.no)))
  simp only [carrefourlaw06_Few.l1]
  rw [if_pos (by omega),if_pos (by omega),up1 (by omega)]
theorem few_l0 {P:Prop} (hP:(∀ k:Nat,k<ns.length→Small (rd_T28 ns (k:Int)).f3 (rd_T28 ns (k:Int)).f4)→P) (h1:ns.length≤15) (h2:ss.length≤15) (d:Nat):∀ i:Nat,(∀ k:Nat,k<i→Small (rd_T28 ns (k:Int)).f3 (rd_T28 ns (k:Int)).f4)→ns.length=i+d→TS (fun k=>carrefourlaw06_Few.l0 k (i:Int) mn_ mx_ st pn pd ns ss wo wi) P:=by
 induction d with
 | zero =>
  intro i hk hi
  refine TS.step (fun k=>?_) (few_l1 mn_ mx_ st pn pd ns ss wo wi (hP fun k h=>hk k (by omega)) h2 ss.length 0 (by omega))
  simp only [carrefourlaw06_Few.l0]
  rw [if_neg (by omega)]
  rfl
 | succ d ih =>
  intro i hk hi
  refine TS.step (fun k=>?_) (TS.bind (node_some (rd_T28 ns (i:Int)).f0 (rd_T28 ns (i:Int)).f1 (rd_T28 ns (i:Int)).f2 (rd_T28 ns (i:Int)).f3 (rd_T28 ns (i:Int)).f4 (rd_T28 ns (i:Int)).f5 (rd_T28 ns (i:Int)).f6) (f:=fun k t=>if t=true then carrefourlaw06_Few.l0 k ((i+1:Nat):Int) mn_ mx_ st pn pd ns ss wo wi else some false) (fun t ht=>TS.ite (fun c=>ih (i+1) (fun k h=>by
   by_cases e:k=i
   ·rw [e];exact ht c
   ·exact hk k (by omega)) (by omega)) (fun _=>TS.no)))
  simp only [carrefourlaw06_Few.l0]
  rw [if_pos (by omega),if_pos (by omega),up1 (by omega)]
theorem few_some:TS (fun k=>carrefourlaw06_Few.f k mn_ mx_ st pn pd ns ss wo wi) (∀ k:Nat,k<ns.length→Small (rd_T28 ns (k:Int)).f3 (rd_T28 ns (k:Int)).f4):=by
 have yes:TS (fun k=>carrefourlaw06_Few.j0 k true mn_ mx_ st pn pd ns ss wo wi) (∀ k:Nat,k<ns.length→Small (rd_T28 ns (k:Int)).f3 (rd_T28 ns (k:Int)).f4):=TS.step (f:=fun _=>some false) (fun k=>by simp only [carrefourlaw06_Few.j0];rw [if_pos trivial]) TS.no
 unfold carrefourlaw06_Few.f
 refine TS.ite (fun _=>yes) (fun h1=>?_)
 by_cases h2:(ss.length:Int)>15
 ·rw [decide_eq_true h2];exact yes
 ·rw [decide_eq_false h2]
  refine TS.step (fun k=>?_) (few_l0 mn_ mx_ st pn pd ns ss wo wi (fun h=>h) (by omega) (by omega) ns.length 0 (fun k h=>by omega) (by omega))
  simp only [carrefourlaw06_Few.j0]
  rw [if_neg (by decide)]
  rfl
end
theorem few_says (nm_:ByteArray) (hs:List S96) (ps:List S98) (fs:List S61) (gs:List S33) (es:List S100) (at_:Int) (rs:List S36):TS (fun k=>carrefourlaw11_few.f k nm_ hs ps fs gs es at_ rs) (rs.length≤50∧Small fs gs):=by
 refine TS.ite (fun c=>TS.bind (few_some 0 0 0 0 0 [⟨nm_,hs,ps,fs,gs,es,at_⟩] [] 0 0) fun t ht=>TS.yes t fun h=>⟨by omega,ht h 0 (by simp)⟩) (fun _=>TS.no)
end Go.Proofs.YtenphnkiacfmiaaDoor.Pure
