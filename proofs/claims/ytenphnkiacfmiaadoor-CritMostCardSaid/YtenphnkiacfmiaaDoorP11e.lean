/- The reference's ways of layer 11: the places of a way's phases; all ways through a node.
   Conditions: as each theorem's head says. -/
import Derived.Test.YtenphnkiacfmiaaDoorP11d
namespace Go.Proofs.YtenphnkiacfmiaaDoor.Pure
set_option linter.unusedVariables false
open Go.RowKit Go.Proofs.YtenphnkiacfmiaaDoor.X Go.Proofs.YtenphnkiacfmiaaDoorW.PrintWords Go.Proofs.YtenphnkiacfmiaaDoorW.PrintLast Go.Proofs.YtenphnkiacfmiaaDoorW.PrintMore
section
variable (nm_:ByteArray) (hs:List S96) (ps:List S98) (fs:List S61) (gs:List S33) (es:List S100) (at_:Int)
theorem rPhase_loop (hf:fs.length≤50) (s:ByteArray) (d:Nat):∀ i:Nat,i+d=fs.length→(∀ j:Nat,(j:Int)<(i:Int)→((fs.getD j z61).f0.toList==s.toList)=false)→Ev (fun k=>carrefourref07_Phase.l0 k s (i:Int) nm_ hs ps fs gs es at_) (pl fs s):=by
 induction d with
 | zero =>
  intro i hi hb
  refine Ev.step (fun k=>by rw [carrefourref07_Phase.l0]) (Ev.iten (by omega) (Ev.eq ?_))
  have h:=idxA_none (p:=fun x:S61=>x.f0.toList==s.toList) (d:=z61) (l:=fs) (x:=(i:Int)) (by omega) hb
  unfold pl
  rw [h]
 | succ d ih =>
  intro i hi hb
  have q1:(i:Int)<(fs.length:Int):=by omega
  have q2:(0:Int)≤(i:Int):=by omega
  refine Ev.step (fun k=>by rw [carrefourref07_Phase.l0,up1 (show i<1000000000000 by omega)]) (Ev.itep q1 (Ev.itep q2 ?_))
  by_cases c:(rd_T61 fs (i:Int)).f0.toList=s.toList
  ·refine Ev.itep c (Ev.eq ?_)
   have h:=idxA_at (p:=fun x:S61=>x.f0.toList==s.toList) (d:=z61) (l:=fs) (x:=(i:Int)) q2 q1 hb (beq_iff_eq.2 c)
   unfold pl
   rw [h]
  ·refine Ev.iten c (ih (i+1) (by omega) fun j hj=>?_)
   by_cases e:j=i
   ·subst e
    refine beq_eq_false_iff_ne.2 ?_
    unfold rd_T61 at c
    rw [Int.toNat_natCast] at c
    exact c
   ·exact hb j (by omega)
theorem rPhase_ev (hf:fs.length≤50) (s:ByteArray):Ev (fun k=>carrefourref07_Phase.f k nm_ hs ps fs gs es at_ s) (pl fs s):=rPhase_loop nm_ hs ps fs gs es at_ hf s fs.length 0 (by omega) (fun j hj=>by omega)
theorem way_l1 (hf:fs.length≤50) {wi:List Int} {i:Nat} {b:Bool} {ss:List ByteArray} (hs_:ss.length≤50) {r:List Int} (d:Nat):∀ (j:Nat) (out:List Int),j+d=ss.length→out.length≤100000+j→Ev (fun k=>carrefourref11_Way.l0 k wi (out++plc fs (ss.drop j)) (wrap64 ((i:Int)+1)) nm_ hs ps fs gs es at_) r→Ev (fun k=>carrefourref11_Way.l1 k wi out (i:Int) (j:Int) nm_ hs ps fs gs es at_ b ss) r:=by
 induction d with
 | zero =>
  intro j out hj ho h
  rw [List.drop_of_length_le (by omega),show plc fs []=[] from rfl,List.append_nil] at h
  exact Ev.step (fun k=>by rw [carrefourref11_Way.l1]) (Ev.iten (by omega) h)
 | succ d ih =>
  intro j out hj ho h
  have q1:(j:Int)<(ss.length:Int):=by omega
  have q2:(0:Int)≤(j:Int):=by omega
  have hj2:j<ss.length:=by omega
  have hd:plc fs (ss.drop j)=(if pl fs ss[j]≥0 then [pl fs ss[j]] else [])++plc fs (ss.drop (j+1)):=by
   unfold plc
   rw [List.drop_eq_getElem_cons hj2,List.filterMap_cons]
   by_cases c:pl fs ss[j]≥0
   ·rw [if_pos c,if_pos c];rfl
   ·rw [if_neg c,if_neg c];rfl
  refine Ev.step (fun k=>by rw [carrefourref11_Way.l1,rd_str hj2,up1 (show j<1000000000000 by omega)]) (Ev.itep q1 (Ev.itep q2 (Ev.bind (rPhase_ev nm_ hs ps fs gs es at_ hf _) ?_)))
  rw [hd,← List.append_assoc] at h
  by_cases c:pl fs ss[j]≥0
  ·rw [if_pos c] at h
   exact Ev.itep c (Ev.itep (by omega) (ih (j+1) _ (by omega) (by simp;omega) h))
  ·rw [if_neg c,List.append_nil] at h
   exact Ev.iten c (ih (j+1) _ (by omega) (by omega) h)
theorem way_l0 (hsm:Small fs gs) {ws:List Nat} (hw:InW gs ws) (d:Nat):∀ (i:Nat) (out:List Int),i+d=gs.length→out.length≤50*i→Ev (fun k=>carrefourref11_Way.l0 k (ints ws) out (i:Int) nm_ hs ps fs gs es at_) (out++placesOf fs (gs.drop i) (ws.drop i)):=by
 have hl:=in_len hw
 have hgs:=hsm.gs0
 induction d with
 | zero =>
  intro i out hi ho
  rw [List.drop_of_length_le (by omega),show placesOf fs [] (ws.drop i)=[] from by cases ws.drop i<;>rfl,List.append_nil]
  exact Ev.step (fun k=>by rw [carrefourref11_Way.l0]) (Ev.iten (by omega) (Ev.step (fun k=>by rw [carrefourref11_Way.j1]) (Ev.iten (by decide) (Ev.now _))))
 | succ d ih =>
  intro i out hi ho
  have hig:i<gs.length:=by omega
  have hiw:i<ws.length:=by omega
  have hin:=in_drop hw hig hiw
  have q1:(i:Int)<((ints ws).length:Int):=by rw [ints_len];omega
  have q2:(0:Int)≤(i:Int):=by omega
  have q3:(i:Int)<(gs.length:Int):=by omega
  have hr:=(hsm.rings _ (List.getElem_mem hig)).2
  rw [List.drop_eq_getElem_cons hig,List.drop_eq_getElem_cons hiw]
  have hp:=plc_le fs (ringOf gs[i] ws[i])
  have hrl:=ring_le hr ws[i]
  have ih:=ih (i+1) (out++plc fs (ringOf gs[i] ws[i])) (by omega) (by rw [List.length_append];omega)
  refine Ev.step (fun k=>by rw [carrefourref11_Way.l0,decide_eq_true q1]) (Ev.itep q3 (Ev.step (fun k=>by rw [carrefourref11_Way.j1,rd_ws hiw,rd_gr hig,rd_rw]) (Ev.itep rfl (Ev.itep q2 (Ev.itep q3 (Ev.itep q1 (Ev.itep (by omega) (Ev.itep (by omega) ?_))))))))
  refine way_l1 nm_ hs ps fs gs es at_ hsm.fs0 (ss:=ringOf gs[i] ws[i]) hrl (ringOf gs[i] ws[i]).length 0 out (by omega) (by omega) ?_
  rw [up1 (by omega),List.drop_zero]
  show Ev _ (out++(plc fs (ringOf gs[i] ws[i])++placesOf fs (gs.drop (i+1)) (ws.drop (i+1))))
  rw [← List.append_assoc]
  exact ih
theorem way_ev (hsm:Small fs gs) {ws:List Nat} (hw:InW gs ws):Ev (fun k=>carrefourref11_Way.f k nm_ hs ps fs gs es at_ (ints ws)) (placesOf fs gs ws) :=
 way_l0 nm_ hs ps fs gs es at_ hsm hw gs.length 0 [] (by omega) (by simp)
end
def outs (rest:List (List Int)):Nat→List (List Int)
 | 0=>[]
 | i+1=>outs rest i++rest.map fun w=>(i:Int)::w
def waysF:List S33→List (List Int)
 | []=>[[]]
 | g::gs=>outs (waysF gs) g.f0.length
theorem outs_mem {rest:List (List Int)} {w:List Int}:∀ {n:Nat},w∈outs rest n↔∃ i:Nat,i<n∧∃ u∈rest,w=(i:Int)::u
 | 0=>⟨fun h=>(by cases h),fun ⟨i,h,_⟩=>(by omega)⟩
 | n+1=>by
  unfold outs
  rw [List.mem_append,outs_mem,List.mem_map]
  constructor
  ·rintro (⟨i,h,u,hu,e⟩|⟨u,hu,e⟩)
   ·exact ⟨i,by omega,u,hu,e⟩
   ·exact ⟨n,by omega,u,hu,e.symm⟩
  ·rintro ⟨i,h,u,hu,e⟩
   by_cases c:i=n
   ·subst c
    exact .inr ⟨u,hu,e.symm⟩
   ·exact .inl ⟨i,by omega,u,hu,e⟩
theorem ways_mem:∀ {gs:List S33} {w:List Int},w∈waysF gs↔∃ ws,InW gs ws∧w=ints ws
 | [],w=>by
  show w∈[[]]↔_
  rw [List.mem_singleton]
  constructor
  ·rintro rfl
   exact ⟨[],trivial,rfl⟩
  ·rintro ⟨ws,h,rfl⟩
   cases ws with
   | nil=>rfl
   | cons a t=>exact h.elim
 | g::gs,w=>by
  show w∈outs (waysF gs) g.f0.length↔_
  rw [outs_mem]
  constructor
  ·rintro ⟨i,hi,u,hu,rfl⟩
   obtain ⟨ws,h,rfl⟩:=ways_mem.1 hu
   exact ⟨i::ws,⟨hi,h⟩,rfl⟩
  ·rintro ⟨ws,h,rfl⟩
   cases ws with
   | nil=>exact h.elim
   | cons a t=>exact ⟨a,h.1,ints t,ways_mem.2 ⟨t,h.2,rfl⟩,rfl⟩
theorem outs_len (rest:List (List Int)):∀ n,(outs rest n).length=n*rest.length
 | 0=>by simp [outs]
 | n+1=>by
  unfold outs
  rw [List.length_append,outs_len rest n,List.length_map,Nat.succ_mul]
theorem ways_len:∀ {gs:List S33},(∀ g∈gs,g.f0.length≤2)→(waysF gs).length≤2 ^ gs.length
 | [],_=>by decide
 | g::gs,h=>by
  have h1:=ways_len (gs:=gs) (fun x hx=>h x (List.mem_cons_of_mem _ hx))
  have h2:=h g (by simp)
  show (outs (waysF gs) g.f0.length).length≤2 ^ (gs.length+1)
  rw [outs_len,Nat.pow_succ]
  have:=Nat.mul_le_mul h2 h1
  omega
theorem rd_l {l:List (List Int)} {i:Nat} (h:i<l.length):rd_L19 l (i:Int)=l[i]:=by
 unfold rd_L19
 rw [Int.toNat_natCast,List.getD_eq_getElem?_getD,List.getElem?_eq_getElem h];rfl
section
variable (nm_:ByteArray) (hs:List S96) (ps:List S98) (fs:List S61) (gs:List S33) (es:List S100) (at_:Int)
theorem ways_ev (h5:gs.length≤5) (h2:∀ g∈gs,g.f0.length≤2) (d:Nat):∀ a:Nat,a+d=gs.length→Ev (fun k=>carrefourlaw11_ways.f k nm_ hs ps fs gs es at_ (a:Int)) (waysF (gs.drop a)):=by
 induction d with
 | zero =>
  intro a ha
  rw [List.drop_of_length_le (by omega),show waysF []=[[]] from rfl]
  exact Ev.step (fun k=>by rw [carrefourlaw11_ways.f]) (Ev.itep (by omega) (Ev.now _))
 | succ d ih =>
  intro a ha
  have hag:a<gs.length:=by omega
  have p0:(0:Int)≤(a:Int):=by omega
  have p1:(a:Int)<(gs.length:Int):=by omega
  have p2:¬ (a:Int)≥(gs.length:Int):=by omega
  have hg2:=h2 _ (List.getElem_mem hag)
  have hrl:=ways_len (gs:=gs.drop (a+1)) (fun g hg=>h2 g (List.mem_of_mem_drop hg))
  have hpw:2 ^ (gs.drop (a+1)).length≤16:=by
   rw [List.length_drop]
   exact Nat.le_trans (Nat.pow_le_pow_right (by decide) (show gs.length-(a+1)≤4 by omega)) (by decide)
  have ih:=ih (a+1) (by omega)
  rw [List.drop_eq_getElem_cons hag]
  generalize hre:waysF (gs.drop (a+1))=rest at ih hrl
  have hin:∀ u∈rest,u.length≤5:=fun u hu=>by
   rw [← hre] at hu
   obtain ⟨ws,hw,rfl⟩:=ways_mem.1 hu
   have:=in_len hw
   rw [List.length_drop] at this
   rw [ints_len]
   omega
  have key:∀ (e i:Nat),i+e=gs[a].f0.length→Ev (fun k=>carrefourlaw11_ways.l0 k (a:Int) rest (outs rest i) (i:Int) nm_ hs ps fs gs es at_) (outs rest gs[a].f0.length):=by
   intro e
   induction e with
   | zero =>
    intro i hi
    obtain rfl:i=gs[a].f0.length:=by omega
    exact Ev.step (fun k=>by rw [carrefourlaw11_ways.l0,rd_gr hag]) (Ev.itep p0 (Ev.itep p1 (Ev.iten (by omega) (Ev.now _))))
   | succ e ihe =>
    intro i hi
    have hol:(outs rest i).length≤16:=by
     rw [outs_len]
     rcases (show i=0∨i=1 by omega) with rfl|rfl
     ·omega
     ·omega
    have ihe:=ihe (i+1) (by omega)
    rw [outs] at ihe
    have inner:∀ (m j:Nat),j+m=rest.length→Ev (fun k=>carrefourlaw11_ways.l1 k (a:Int) rest (outs rest i++(rest.take j).map fun w=>(i:Int)::w) (i:Int) (j:Int) nm_ hs ps fs gs es at_) (outs rest gs[a].f0.length):=by
     intro m
     induction m with
     | zero =>
      intro j hj
      rw [List.take_of_length_le (by omega)]
      refine Ev.step (fun k=>by rw [carrefourlaw11_ways.l1,up1 (show i<1000000000000 by omega)]) (Ev.iten (by omega) ihe)
     | succ m ihm =>
      intro j hj
      have hjr:j<rest.length:=by omega
      have ihm:=ihm (j+1) (by omega)
      have hl2:(outs rest i++(rest.take j).map fun w=>(i:Int)::w).length≤32:=by
       rw [List.length_append,List.length_map,List.length_take]
       omega
      have hu:=hin _ (List.getElem_mem hjr)
      rw [List.take_succ_eq_append_getElem hjr,List.map_append,← List.append_assoc,List.map_cons,List.map_nil] at ihm
      have r1:(j:Int)<(rest.length:Int):=by omega
      have r2:((outs rest i++(rest.take j).map fun w=>(i:Int)::w).length:Int)<100:=by omega
      have r3:(0:Int)≤(j:Int):=by omega
      have r4:[(i:Int)].length+rest[j].length<17592186044416:=by simp;omega
      have r5:(outs rest i++(rest.take j).map fun w=>(i:Int)::w).length<5864062014805:=by omega
      refine Ev.step (fun k=>by rw [carrefourlaw11_ways.l1,rd_l hjr,up1 (show j<1000000000000 by omega)]) (Ev.itep r1 (Ev.itep r2 ?_))
      refine Ev.bindc (a:=[(i:Int)]) rfl (Ev.itep r3 ?_)
      exact Ev.itep r4 (Ev.itep r5 ihm)
    have h0:=inner rest.length 0 (by omega)
    rw [List.take_zero,List.map_nil,List.append_nil] at h0
    refine Ev.step (fun k=>by rw [carrefourlaw11_ways.l0,rd_gr hag]) (Ev.itep p0 (Ev.itep p1 (Ev.itep (by omega) ?_)))
    exact h0
  have hk:=key gs[a].f0.length 0 (by omega)
  refine Ev.step (fun k=>by rw [carrefourlaw11_ways.f,up1 (show a<1000000000000 by omega)]) (Ev.iten p2 (Ev.bind ih ?_))
  show Ev _ (outs (waysF (gs.drop (a+1))) gs[a].f0.length)
  rw [hre]
  exact hk
end
end Go.Proofs.YtenphnkiacfmiaaDoor.Pure
