/- Ways through a node's groups, crit.Rank, the example of chapter 11.
   Conditions: as each theorem's head says. -/
import Derived.Test.YtenphnkiacfmiaaDoorP11c
import Derived.Lib.Bytes
namespace Go.Proofs.YtenphnkiacfmiaaDoor.Pure
set_option linter.unusedVariables false
open Go.RowKit Go.Proofs.YtenphnkiacfmiaaDoor.X Go.Proofs.YtenphnkiacfmiaaDoorW.PrintWords Go.Proofs.YtenphnkiacfmiaaDoorW.PrintLast Go.Proofs.YtenphnkiacfmiaaDoorW.PrintMore
abbrev ints (ws:List Nat):List Int:=ws.map fun w:Nat=>(w:Int)
def InW:List S33→List Nat→Prop
 | [],[]=>True
 | g::gs,w::ws=>w<g.f0.length∧InW gs ws
 | _,_=>False
theorem best_in {fs:List S61} {rs:List S36}:∀ {gs:List S33} {ws:List Nat},BestAll fs rs gs ws→InW gs ws
 | [],[],_=>trivial
 | _::_,_::_,h=>⟨h.1.lt,best_in h.2⟩
 | [],_::_,h=>h.elim
 | _::_,[],h=>h.elim
theorem in_len:∀ {gs:List S33} {ws:List Nat},InW gs ws→ws.length=gs.length
 | [],[],_=>rfl
 | _::_,_::_,h=>by rw [List.length_cons,List.length_cons,in_len h.2]
 | [],_::_,h=>h.elim
 | _::_,[],h=>h.elim
theorem best_most {fs:List S61} {rs:List S36}:∀ {gs:List S33} {bw ws:List Nat},BestAll fs rs gs bw→InW gs ws→TV fs rs gs ws≤TV fs rs gs bw
 | [],[],[],_,_=>by show (0:Rat)≤0;grind
 | g::gs,b::bw,w::ws,h,hi=>by
  have h1:=h.1.most w hi.1
  have h2:=best_most h.2 hi.2
  show SV _+TV fs rs gs ws≤SV _+TV fs rs gs bw
  grind
 | [],[],_::_,_,h=>h.elim
 | [],_::_,_,h,_=>h.elim
 | _::_,[],_,h,_=>h.elim
 | _::_,_::_,[],_,h=>h.elim
def placesOf (fs:List S61):List S33→List Nat→List Int
 | g::gs,w::ws=>plc fs (ringOf g w)++placesOf fs gs ws
 | _,_=>[]
theorem rd_ws {ws:List Nat} {i:Nat} (h:i<ws.length):rd (ints ws) (i:Int)=(ws[i]:Int):=by
 unfold rd ints
 rw [Int.toNat_natCast,List.getD_eq_getElem?_getD,List.getElem?_map,List.getElem?_eq_getElem h]
 rfl
theorem ints_len (ws:List Nat):(ints ws).length=ws.length:=List.length_map _
theorem in_drop:∀ {gs:List S33} {ws:List Nat} {i:Nat},InW gs ws→(h:i<gs.length)→(h2:i<ws.length)→ws[i]<gs[i].f0.length
 | _::_,_::_,0,h,_,_=>h.1
 | _::_,_::_,i+1,h,h1,h2=>by
  simp only [List.getElem_cons_succ]
  exact in_drop h.2 (by simpa using h1) (by simpa using h2)
 | [],_,i,_,h1,_=>by simp at h1
 | _::_,[],i,_,_,h2=>by simp at h2
section
variable (nm_:ByteArray) (hs:List S96) (ps:List S98) (fs:List S61) (gs:List S33) (es:List S100) (at_:Int)
theorem rank_l1 (hf:fs.length≤50) {wi:List Int} {i:Nat} {ss:List ByteArray} (hs_:ss.length≤50) {r:List Int} (d:Nat):∀ (j:Nat) (out:List Int),j+d=ss.length→out.length≤100000+j→Ev (fun k=>crit_Rank.l0 k (out++plc fs (ss.drop j)) wi (wi.length:Int) (wrap64 ((i:Int)+1)) nm_ hs ps fs gs es at_) r→Ev (fun k=>crit_Rank.l1 k out wi (wi.length:Int) (i:Int) ss (ss.length:Int) (j:Int) nm_ hs ps fs gs es at_) r:=by
 induction d with
 | zero =>
  intro j out hj ho h
  rw [List.drop_of_length_le (by omega),show plc fs []=[] from rfl,List.append_nil] at h
  exact Ev.step (fun k=>by rw [crit_Rank.l1]) (Ev.iten (by omega) h)
 | succ d ih =>
  intro j out hj ho h
  have q1:(j:Int)<(ss.length:Int):=by omega
  have q2:(0:Int)≤(j:Int):=by omega
  have hj2:j<ss.length:=by omega
  have hd:plc fs (ss.drop j)=(if pl fs ss[j]≥0 then [pl fs ss[j]] else [])++plc fs (ss.drop (j+1)):=by
   unfold plc
   rw [List.drop_eq_getElem_cons hj2,List.filterMap_cons]
   by_cases c:pl fs ss[j]≥0
   ·rw [if_pos c,if_pos c];rfl
   ·rw [if_neg c,if_neg c];rfl
  refine Ev.step (fun k=>by rw [crit_Rank.l1,rd_str hj2,up1 (show j<1000000000000 by omega)]) (Ev.itep q1 (Ev.itep q2 (Ev.itep q1 (Ev.bindc (vPhase_f nm_ hs ps fs gs es at_ hf _) ?_))))
  rw [hd,← List.append_assoc] at h
  by_cases c:pl fs ss[j]≥0
  ·rw [if_pos c] at h
   exact Ev.itep c (Ev.itep (by omega) (ih (j+1) _ (by omega) (by simp;omega) h))
  ·rw [if_neg c,List.append_nil] at h
   exact Ev.iten c (ih (j+1) _ (by omega) (by omega) h)
theorem rank_l0 (hsm:Small fs gs) {ws:List Nat} (hw:InW gs ws) (d:Nat):∀ (i:Nat) (out:List Int),i+d=gs.length→out.length≤50*i→Ev (fun k=>crit_Rank.l0 k out (ints ws) ((ints ws).length:Int) (i:Int) nm_ hs ps fs gs es at_) (out++placesOf fs (gs.drop i) (ws.drop i)):=by
 have hl:=in_len hw
 have hgs:=hsm.gs0
 induction d with
 | zero =>
  intro i out hi ho
  rw [List.drop_of_length_le (by omega),show placesOf fs [] (ws.drop i)=[] from by cases ws.drop i<;>rfl,List.append_nil]
  refine Ev.step (fun k=>by rw [crit_Rank.l0]) (Ev.iten ?_ (Ev.now _))
  rw [ints_len]
  omega
 | succ d ih =>
  intro i out hi ho
  have hig:i<gs.length:=by omega
  have hiw:i<ws.length:=by omega
  have hin:=in_drop hw hig hiw
  have q1:(i:Int)<((ints ws).length:Int):=by rw [ints_len];omega
  have q2:(0:Int)≤(i:Int):=by omega
  have q3:(i:Int)<(gs.length:Int):=by omega
  have hr:=(hsm.rings _ (List.getElem_mem hig)).2
  rw [List.drop_eq_getElem_cons hig,List.drop_eq_getElem_cons hiw]
  have hp:=plc_le fs (ringOf gs[i] ws[i])
  have hrl:=ring_le hr ws[i]
  have ih:=ih (i+1) (out++plc fs (ringOf gs[i] ws[i])) (by omega) (by rw [List.length_append];omega)
  refine Ev.step (fun k=>by rw [crit_Rank.l0,rd_ws hiw,rd_gr hig,rd_rw]) (Ev.itep q1 (Ev.itep q2 (Ev.itep q1 (Ev.itep q3 (Ev.itep (by omega) (Ev.itep (by omega) ?_))))))
  refine rank_l1 nm_ hs ps fs gs es at_ hsm.fs0 (ss:=ringOf gs[i] ws[i]) hrl (ringOf gs[i] ws[i]).length 0 out (by omega) (by omega) ?_
  rw [up1 (by omega),List.drop_zero]
  show Ev _ (out++(plc fs (ringOf gs[i] ws[i])++placesOf fs (gs.drop (i+1)) (ws.drop (i+1))))
  rw [← List.append_assoc]
  exact ih
theorem rank_ev (hsm:Small fs gs) {rs:List S36} {ws:List Nat} (hw:InW gs ws) {a b:Int} (h:Ev (fun k=>crit_Sum.f k nm_ hs ps fs gs es at_ rs) (a,b,ints ws,0)):Ev (fun k=>crit_Rank.f k nm_ hs ps fs gs es at_ rs) (placesOf fs gs ws):=by
 have:=rank_l0 nm_ hs ps fs gs es at_ hsm hw gs.length 0 [] (by omega) (by simp)
 exact Ev.bind h (Ev.itep rfl this)
end
def exF:List S61:=[⟨⟨#[97]⟩,[],0⟩,⟨⟨#[98]⟩,[],0⟩,⟨⟨#[99]⟩,[],0⟩,⟨⟨#[100]⟩,[],0⟩]
def exG:List S33:=[⟨[⟨false,[⟨#[97]⟩,⟨#[98]⟩]⟩,⟨false,[⟨#[99]⟩]⟩]⟩,⟨[⟨false,[⟨#[100]⟩]⟩]⟩]
def exR:List S36:=[⟨1,4⟩,⟨1,5⟩,⟨2,5⟩,⟨1,10⟩]
theorem ex_small:Small exF exG:=⟨by decide,by decide,fun g hg=>by
 have hg:g=exG[0]∨g=exG[1]:=by simpa [exG] using hg
 rcases hg with rfl|rfl
 ·refine ⟨by decide,fun r hr=>?_⟩
  have hr:r=⟨false,[⟨#[97]⟩,⟨#[98]⟩]⟩∨r=⟨false,[⟨#[99]⟩]⟩:=by simpa [exG] using hr
  rcases hr with rfl|rfl<;>decide
 ·refine ⟨by decide,fun r hr=>?_⟩
  have hr:r=⟨false,[⟨#[100]⟩]⟩:=by simpa [exG] using hr
  subst hr
  decide⟩
theorem ex_fits:Fits exR:=fun x hx=>by
 have hx:x=⟨1,4⟩∨x=⟨1,5⟩∨x=⟨2,5⟩∨x=⟨1,10⟩:=by simpa [exR] using hx
 unfold I64
 rcases hx with rfl|rfl|rfl|rfl<;>(constructor<;>constructor<;>decide)
theorem pl_data (fs:List S61) (s:ByteArray):pl fs s=idxA (fun x:S61=>x.f0.data.toList==s.data.toList) fs:=by
 unfold pl
 simp only [Lib.toList_data]
theorem ex_pl:pl exF ⟨#[97]⟩=0∧pl exF ⟨#[98]⟩=1∧pl exF ⟨#[99]⟩=2∧pl exF ⟨#[100]⟩=3:=by
 simp only [pl_data]
 decide +kernel
theorem ex_plc:plc exF (ringOf exG[0] 0)=[0,1]∧plc exF (ringOf exG[0] 1)=[2]∧plc exF (ringOf exG[1] 0)=[3]:=by
 obtain ⟨h0,h1,h2,h3⟩:=ex_pl
 refine ⟨?_,?_,?_⟩
 ·show [(⟨#[97]⟩:ByteArray),⟨#[98]⟩].filterMap _=_
  simp [h0,h1]
 ·show [(⟨#[99]⟩:ByteArray)].filterMap _=_
  simp [h2]
 ·show [(⟨#[100]⟩:ByteArray)].filterMap _=_
  simp [h3]
theorem ex_row:rowOf exF exR (ringOf exG[0] 0)=[⟨1,4⟩,⟨1,5⟩]∧rowOf exF exR (ringOf exG[0] 1)=[⟨2,5⟩]∧rowOf exF exR (ringOf exG[1] 0)=[⟨1,10⟩]∧placesOf exF exG [0,0]=[0,1,3]:=by
 obtain ⟨h0,h1,h2⟩:=ex_plc
 refine ⟨by unfold rowOf;rw [h0];rfl,by unfold rowOf;rw [h1];rfl,by unfold rowOf;rw [h2];rfl,?_⟩
 show plc exF (ringOf exG[0] 0)++(plc exF (ringOf exG[1] 0)++[])=_
 rw [h0,h2]
 rfl
theorem f_ev {n d:Int} (hn:I64 n) (hd:I64 d):Ev (fun k=>carrefourlaw11_f.f k n d) ((ofS n d).1,(ofS n d).2.1):=Ev.bind (rOf_ev hn hd) (Ev.now _)
theorem ex_vals:sumS [(⟨1,4⟩:S36),⟨1,5⟩] 0 1=(9,20,0)∧sumS [(⟨2,5⟩:S36)] 0 1=(2,5,0)∧sumS [(⟨1,10⟩:S36)] 0 1=(1,10,0)∧sumS [(⟨9,20⟩:S36),⟨1,10⟩] 0 1=(11,20,0)∧ofS 1 4=(1,4,0)∧ofS 1 5=(1,5,0)∧ofS 2 5=(2,5,0)∧ofS 1 10=(1,10,0)∧ofS 11 20=(11,20,0):=by
 decide +kernel
theorem ex_best:∀ {ws:List Nat},BestAll exF exR exG ws→ws=[0,0]
 | [a,b],h=>by
  obtain ⟨r0,r1,r2,_⟩:=ex_row
  have ha:a<2:=h.1.lt
  have hb:b<1:=h.2.1.lt
  have hm:=h.1.most 0 (by decide)
  have ha0:a=0:=by
   by_cases e:a=1
   ·subst e
    have hm:SV (rowOf exF exR (ringOf exG[0] 0))≤SV (rowOf exF exR (ringOf exG[0] 1)):=hm
    rw [r0,r1] at hm
    exact absurd hm (by decide +kernel)
   ·omega
  rw [ha0,show b=0 by omega]
 | [],h=>h.elim
 | [_],h=>h.2.elim
 | _::_::_::_,h=>h.2.2.elim
theorem awake_ev:Ev (fun k=>carrefourlaw11_awake.f k) true:=by
 obtain ⟨v1,v2,v3,v4,o1,o2,o3,o4,o5⟩:=ex_vals
 obtain ⟨r0,r1,r2,rp⟩:=ex_row
 have i:∀ n:Nat,n<100→I64 (n:Int):=fun n hn=>by unfold I64;omega
 obtain ⟨⟨a,b,wi,e⟩,hr,hA,hB⟩:=Sum_says ⟨#[]⟩ [] [] exF exG [] 0 ex_fits ex_small
 simp only at hA hB
 have he:e=0:=by
  by_cases c:e=0
  ·exact c
  ·rcases hB c with h|⟨g,hg,h⟩|⟨g,hg,k,hk,h⟩|⟨ws,hw,h⟩
   ·exact absurd rfl h
   ·have hg:g=exG[0]∨g=exG[1]:=by simpa [exG] using hg
    rcases hg with rfl|rfl<;>exact absurd h (by decide)
   ·have hg:g=exG[0]∨g=exG[1]:=by simpa [exG] using hg
    rcases hg with rfl|rfl
    ·have hk:k<2:=hk
     rcases (show k=0∨k=1 by omega) with rfl|rfl
     ·rw [r0,v1] at h;exact absurd rfl h
     ·rw [r1,v2] at h;exact absurd rfl h
    ·have hk:k<1:=hk
     obtain rfl:k=0:=by omega
     rw [r2,v3] at h;exact absurd rfl h
   ·have:=ex_best hw
    subst this
    have e1:bsOf exF exR exG [0,0]=[⟨9,20⟩,⟨1,10⟩]:=by
     show [(⟨(sumS (rowOf exF exR (ringOf exG[0] 0)) 0 1).1,(sumS (rowOf exF exR (ringOf exG[0] 0)) 0 1).2.1⟩:S36),⟨(sumS (rowOf exF exR (ringOf exG[1] 0)) 0 1).1,(sumS (rowOf exF exR (ringOf exG[1] 0)) 0 1).2.1⟩]=_
     rw [r0,r2,v1,v3]
    rw [e1,v4] at h
    exact absurd rfl h
 subst he
 obtain ⟨_,ia,ib,hrt,ws,hw,hq,rfl⟩:=hA rfl
 have:=ex_best hw
 subst this
 have hval:qv a b=qv 11 20:=by
  rw [hq]
  show SV (rowOf exF exR (ringOf exG[0] 0))+(SV (rowOf exF exR (ringOf exG[1] 0))+0)=_
  rw [r0,r2]
  decide +kernel
 obtain ⟨rfl,rfl⟩:=rt_one ia ib (i 11 (by decide)) (i 20 (by decide)) hrt (show rt 11 20 from ⟨by decide,by decide⟩) hval
 have hk:=rank_ev ⟨#[]⟩ [] [] exF exG [] 0 ex_small (best_in hw) hr
 rw [rp] at hk
 have f1:=f_ev (i 1 (by decide)) (i 4 (by decide))
 have f2:=f_ev (i 1 (by decide)) (i 5 (by decide))
 have f3:=f_ev (i 2 (by decide)) (i 5 (by decide))
 have f4:=f_ev (i 1 (by decide)) (i 10 (by decide))
 have f5:=f_ev (i 11 (by decide)) (i 20 (by decide))
 rw [show ((1:Nat):Int)=1 from rfl] at f1 f2 f4
 rw [show ((4:Nat):Int)=4 from rfl,o1] at f1
 rw [show ((5:Nat):Int)=5 from rfl,o2] at f2
 rw [show ((2:Nat):Int)=2 from rfl,show ((5:Nat):Int)=5 from rfl,o3] at f3
 rw [show ((10:Nat):Int)=10 from rfl,o4] at f4
 rw [show ((11:Nat):Int)=11 from rfl,show ((20:Nat):Int)=20 from rfl,o5] at f5
 exact Ev.bindc rfl (Ev.bindc rfl (Ev.bind f1 (Ev.bind f2 (Ev.bind f3 (Ev.bind f4 (Ev.bindc rfl (Ev.bind hr (Ev.bind hk (Ev.itep rfl (Ev.bind f5 (Ev.itep (by decide) (Ev.itep rfl (Ev.itep (by decide) (Ev.itep rfl (Ev.itep rfl (Ev.itep (by decide) (Ev.now _)))))))))))))))))
end Go.Proofs.YtenphnkiacfmiaaDoor.Pure
