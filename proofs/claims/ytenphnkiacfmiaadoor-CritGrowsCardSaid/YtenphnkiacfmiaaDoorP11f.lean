/- Sums of ways where a ratio is greater, or a group is left out.
   Conditions: as each theorem's head says. -/
import Derived.Test.YtenphnkiacfmiaaDoorP11d
namespace Go.Proofs.YtenphnkiacfmiaaDoor.Pure
set_option linter.unusedVariables false
open Go.RowKit Go.Proofs.YtenphnkiacfmiaaDoor.X Go.Proofs.YtenphnkiacfmiaaDoorW.PrintWords Go.Proofs.YtenphnkiacfmiaaDoorW.PrintLast Go.Proofs.YtenphnkiacfmiaaDoorW.PrintMore
theorem sv_le {rs rs':List S36} (h:∀ p:Int,rv (rd_T36 rs p)≤rv (rd_T36 rs' p)):∀ (ps:List Int),SV (ps.map fun p=>rd_T36 rs p)≤SV (ps.map fun p=>rd_T36 rs' p)
 | []=>by show (0:Rat)≤0;grind
 | p::t=>by
  have h1:=h p
  have h2:=sv_le h t
  show rv (rd_T36 rs p)+SV _≤rv (rd_T36 rs' p)+SV _
  grind
theorem sv_pos {rs:List S36} (h:∀ p:Int,0≤rv (rd_T36 rs p)):∀ (ps:List Int),0≤SV (ps.map fun p=>rd_T36 rs p)
 | []=>by show (0:Rat)≤0;grind
 | p::t=>by
  have h1:=h p
  have h2:=sv_pos h t
  show 0≤rv (rd_T36 rs p)+SV _
  grind
theorem tv_le {fs:List S61} {rs rs':List S36} (h:∀ p:Int,rv (rd_T36 rs p)≤rv (rd_T36 rs' p)):∀ (gs:List S33) (ws:List Nat),TV fs rs gs ws≤TV fs rs' gs ws
 | [],_=>by cases ‹List Nat›<;>(show (0:Rat)≤0;grind)
 | _::_,[]=>by show (0:Rat)≤0;grind
 | g::gs,w::ws=>by
  have h1:SV (rowOf fs rs (ringOf g w))≤SV (rowOf fs rs' (ringOf g w)):=sv_le h _
  have h2:=tv_le (fs:=fs) h gs ws
  show SV _+TV fs rs gs ws≤SV _+TV fs rs' gs ws
  grind
theorem best_cut {fs:List S61} {rs:List S36}:∀ {gs:List S33} {g:S33} {ws:List Nat},BestAll fs rs (gs++[g]) ws→∃ u w,BestAll fs rs gs u∧TV fs rs (gs++[g]) ws=TV fs rs gs u+SV (rowOf fs rs (ringOf g w))
 | [],g,[w],h=>⟨[],w,trivial,by show SV _+0=0+SV _;grind⟩
 | [],g,[],h=>h.elim
 | [],g,_::_::_,h=>h.2.elim
 | a::t,g,b::u,h=>by
  obtain ⟨v,w,h1,h2⟩:=best_cut (gs:=t) h.2
  refine ⟨b::v,w,⟨h.1,h1⟩,?_⟩
  show SV _+TV fs rs (t++[g]) u=(SV _+TV fs rs t v)+SV _
  rw [h2]
  grind
 | _::_,_,[],h=>h.elim
theorem rd_oob {rs:List S36} {p:Int} (h:¬ p.toNat<rs.length):rd_T36 rs p=z36:=by
 unfold rd_T36
 rw [List.getD_eq_getElem?_getD,List.getElem?_eq_none (by omega)]
 rfl
theorem rd_nat {rs:List S36} {p:Int} (h:p.toNat<rs.length):rd_T36 rs p=rs[p.toNat]:=by
 unfold rd_T36
 rw [List.getD_eq_getElem?_getD,List.getElem?_eq_getElem h]
 rfl
theorem set_le {rs:List S36} {n:Nat} {b:S36} (h:∀ hn:n<rs.length,rv rs[n]≤rv b) (p:Int):rv (rd_T36 rs p)≤rv (rd_T36 (rs.set n b) p):=by
 by_cases c:p.toNat<rs.length
 ·rw [rd_nat c,rd_nat (by rw [List.length_set];exact c),List.getElem_set]
  by_cases e:n=p.toNat
  ·rw [if_pos e]
   subst e
   exact h c
  ·rw [if_neg e]
   grind
 ·rw [rd_oob c,rd_oob (by rw [List.length_set];exact c)]
  grind
theorem rv_nonneg {x:S36} (h:0≤x.f0):0≤rv x:=by
 unfold rv nm
 by_cases c:rt x.f0 x.f1
 ·rw [if_pos c]
  have h1:=cast_pos c.1
  have h2:(0:Rat)≤(x.f0:Rat):=by
   have:((0:Int):Rat)≤(x.f0:Rat):=Rat.intCast_le_intCast.2 h
   simpa using this
  have h3:¬ qv x.f0 x.f1<qv 0 1:=fun hh=>by
   have:=(qv_lt (a:=0) (b:=1) (c:=x.f0) (d:=x.f1) (by decide) c.1).1 hh
   omega
  rw [zero_qv] at h3
  show 0≤qv x.f0 x.f1
  grind
 ·rw [if_neg c]
  show 0≤qv 0 1
  rw [zero_qv]
  grind
theorem rd_nonneg {rs:List S36} (h:∀ x∈rs,0≤x.f0) (p:Int):0≤rv (rd_T36 rs p):=by
 by_cases c:p.toNat<rs.length
 ·rw [rd_nat c]
  exact rv_nonneg (h _ (List.getElem_mem c))
 ·rw [rd_oob c]
  exact rv_nonneg (by decide)
theorem less_le {fs:List S61} {rs:List S36} (hp:∀ p:Int,0≤rv (rd_T36 rs p)) {gs:List S33} {ws us:List Nat} (h:BestAll fs rs gs ws) (hu:BestAll fs rs (gs.take (gs.length-1)) us):TV fs rs (gs.take (gs.length-1)) us≤TV fs rs gs ws:=by
 by_cases c:gs.length=0
 ·have e:gs=[]:=List.eq_nil_of_length_eq_zero c
  subst e
  have:=best_most h (best_in hu)
  exact this
 ·have e:gs.take (gs.length-1)++[gs[gs.length-1]]=gs:=by
   have:=List.take_succ_eq_append_getElem (l:=gs) (i:=gs.length-1) (by omega)
   rw [← this,List.take_of_length_le (by omega)]
  generalize gs.take (gs.length-1)=g0 at *
  generalize gs[gs.length-1]=g1 at *
  subst e
  obtain ⟨v,w,h1,h2⟩:=best_cut h
  have h3:=best_most h1 (best_in hu)
  have h4:0≤SV (rowOf fs rs (ringOf g1 w)):=sv_pos hp _
  rw [h2]
  grind
end Go.Proofs.YtenphnkiacfmiaaDoor.Pure
