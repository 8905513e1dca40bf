/- Fractions by rows of parts: what the functions of package carrefourref02 come to.
   Conditions: as each theorem's head says. -/
import Derived.Test.YtenphnkiacfmiaaDoorP02c
import Derived.Test.YtenphnkiacfmiaaDoorP01d
namespace Go.Proofs.YtenphnkiacfmiaaDoor.Pure
set_option linter.unusedVariables false
open Go.RowKit Go.Proofs.YtenphnkiacfmiaaDoor.X Go.Proofs.YtenphnkiacfmiaaDoorW.PrintWords Go.Proofs.YtenphnkiacfmiaaDoorW.PrintLast Go.Proofs.YtenphnkiacfmiaaDoorW.PrintMore
theorem trim_end {a:List Int} {n:Nat} (hn:n≤a.length) (hl:a.length<50000) :
  ((some (([]:List Int):List Int)).bind fun y=>(if 0≤(n:Int) then (if (n:Int)≤(a.length:Int) then (if y.length+(a.take (n:Int).toNat).length<17592186044416 then (some (y++(a.take (n:Int).toNat))) else (none)) else (none)) else (none)))=some (a.take n):=by
 simp only [Option.bind_some,Int.toNat_natCast]
 rw [if_pos (by omega),if_pos (by omega),if_pos (by simp;omega),List.nil_append]
theorem trim_loop {a:List Int} {x:Int} (ha:Num a x) (hl:a.length<50000) (n:Nat):n≤a.length→W a n=0→∃ r,Ev (fun k=>carrefourref02_trim.l0 k a (n:Int)) r∧Num r x∧r.length≤a.length:=by
 have fin:∀ n:Nat,n≤a.length→W a n=0→Num (a.take n) x∧(a.take n).length≤a.length:=by
  intro n hn hw
  refine ⟨⟨ha.good.take n,?_⟩,by simp;omega⟩
  have:=V_split a n hn
  rw [hw,Int.mul_zero,Int.add_zero] at this
  rw [← this,ha.val]
 induction n with
 | zero =>
  intro hn hw
  refine ⟨a.take 0,Ev.step (f:=fun _=>some (a.take 0)) (fun k=>?_) (Ev.now _),fin 0 hn hw⟩
  simp only [carrefourref02_trim.l0]
  rw [if_neg (by omega)]
  exact trim_end hn hl
 | succ n ih =>
  intro hn hw
  have e:wrap64 (((n+1:Nat):Int)-1)=(n:Int):=by rw [w64 (by omega) (by omega)];omega
  by_cases h0:dg a n=0
  ·obtain ⟨r,hr,h⟩:=ih (by omega) (by rw [W_step,h0,hw];rfl)
   refine ⟨r,Ev.step (fun k=>?_) hr,h⟩
   simp only [carrefourref02_trim.l0]
   rw [e,if_pos (by omega),if_pos (by omega),if_pos (by omega),rd_dg,if_pos h0]
  ·refine ⟨a.take (n+1),Ev.step (f:=fun _=>some (a.take (n+1))) (fun k=>?_) (Ev.now _),fin (n+1) hn hw⟩
   simp only [carrefourref02_trim.l0]
   rw [e,if_pos (by omega),if_pos (by omega),if_pos (by omega),rd_dg,if_neg h0]
   exact trim_end hn hl
theorem trim_ev {a:List Int} {x:Int} (ha:Num a x) (hl:a.length<50000):∃ r,Ev (fun k=>carrefourref02_trim.f k a) r∧Num r x∧r.length≤a.length:=by
 obtain ⟨r,hr,h⟩:=trim_loop ha hl a.length (Nat.le_refl _) (W_past (Nat.le_refl _))
 exact ⟨r,hr,h⟩
theorem twice_ev {a:List Int} {x:Int} (ha:Num a x) (hl:a.length<50000):∃ r,Ev (fun k=>carrefourref02_twice.f k a) r∧Num r (x+x)∧r.length≤a.length+1:=by
 obtain ⟨r,hr,hn,hlen,_⟩:=plus_ev ha ha hl hl
 refine ⟨r,?_,hn,by omega⟩
 unfold carrefourref02_twice.f
 exact Ev.bind hr (Ev.now _)
structure Dbl (l:List (List Int)) (B:Int) (L m:Nat):Prop where
 len:l.length=m
 num:∀ i,i<m→Num (l.getD i []) (2 ^ i*B)∧(l.getD i []).length≤L+i
theorem Dbl.snoc {l:List (List Int)} {B:Int} {L m:Nat} {t:List Int} (h:Dbl l B L m) (ht:Num t (2 ^ m*B)) (hl:t.length≤L+m):Dbl (l++[t]) B L (m+1):=by
 refine ⟨by simp [h.len],fun i hi=>?_⟩
 by_cases c:i<m
 ·have e:(l++[t]).getD i []=l.getD i []:=by
   rw [List.getD_eq_getElem?_getD,List.getD_eq_getElem?_getD,List.getElem?_append_left (by rw [h.len];exact c)]
  rw [e];exact h.num i c
 ·obtain rfl:i=m:=by omega
  have e:(l++[t]).getD i []=t:=by
   rw [List.getD_eq_getElem?_getD,List.getElem?_append_right (by rw [h.len];omega),h.len];simp
  rw [e];exact ⟨ht,hl⟩
theorem dbl_two (i:Nat) (B:Int):2 ^ i*B+2 ^ i*B=2 ^ (i+1)*B:=by rw [Int.pow_succ,Int.mul_assoc,Int.mul_comm 2 B,← Int.mul_assoc];omega
theorem sgn_le {x y:Int}:sgn x y≤0↔x≤y:=by unfold sgn;split<;>(try split)<;>omega
theorem rest_l0_eq (k:Nat) (x0:List Int) (x5:List (List Int)) (x6:List Int):carrefourref02_rest.l0 (k+1) x0 x5 x6=(carrefourref01_Order.f k x6 x0).bind fun t385=>(if t385≤0 then (if x5.length<5864062014805 then ((carrefourref02_twice.f k x6).bind fun t389=>(carrefourref02_rest.l0 k x0 (x5++[x6]) t389)) else (none)) else (carrefourref02_rest.l1 k x0 x5 (wrap64 ((x5.length:Int)-1)))):=by simp only [carrefourref02_rest.l0]
theorem rest_l1_eq (k:Nat) (x0:List Int) (x5:List (List Int)) (i:Nat) (h:i<x5.length) (h':i≤1000):carrefourref02_rest.l1 (k+1) x0 x5 (i:Int)=(carrefourref01_Order.f k (x5.getD i []) x0).bind fun t393=>(if t393≤0 then ((carrefourref01_Minus.f k x0 (x5.getD i [])).bind fun t395=>((carrefourref02_trim.f k t395).bind fun t398=>(carrefourref02_rest.l1 k t398 x5 ((i:Int)-1)))) else (carrefourref02_rest.l1 k x0 x5 ((i:Int)-1))):=by
 have ew:wrap64 ((i:Int)-1)=(i:Int)-1:=w64 (by omega) (by omega)
 have er:rd_L20 x5 (i:Int)=x5.getD i []:=rfl
 simp only [carrefourref02_rest.l1,er,ew]
 rw [if_pos (by omega),if_pos (by omega),if_pos (by omega)]
theorem rest_up {a:List Int} {A B:Int} {L:Nat} (ha:Num a A) (hla:a.length≤40) (hB:1≤B) (hL:L≤40) (d:Nat):∀ (i:Nat) (l:List (List Int)) (t:List Int),Dbl l B L i→Num t (2 ^ i*B)→t.length≤L+i→A<2 ^ (i+d)*B→i+d≤1000 →
  ∃ m l',Dbl l' B L m∧A<2 ^ m*B∧m≤1000∧∀ r,Ev (fun k=>carrefourref02_rest.l1 k a l' ((m:Int)-1)) r→Ev (fun k=>carrefourref02_rest.l0 k a l t) r:=by
 have stop:∀ (i:Nat) (l:List (List Int)) (t:List Int),Dbl l B L i→Num t (2 ^ i*B)→t.length≤L+i→A<2 ^ i*B→i≤1000→∀ r,Ev (fun k=>carrefourref02_rest.l1 k a l ((i:Int)-1)) r→Ev (fun k=>carrefourref02_rest.l0 k a l t) r:=by
  intro i l t hd ht hl hA hi r hr
  refine Ev.step (fun k=>rest_l0_eq k _ _ _) (Ev.bind (order_ev ht ha (by omega) (by omega)) (Ev.iten (by rw [sgn_le];omega) ?_))
  rw [hd.len,w64 (by omega) (by omega)]
  exact hr
 induction d with
 | zero =>
  intro i l t hd ht hl hA hi
  exact ⟨i,l,hd,hA,by omega,stop i l t hd ht hl hA (by omega)⟩
 | succ d ih =>
  intro i l t hd ht hl hA hi
  by_cases c:2 ^ i*B≤A
  ·obtain ⟨t2,h2,n2,l2⟩:=twice_ev ht (by omega)
   rw [dbl_two] at n2
   obtain ⟨m,l',hd',hA',hm,hr⟩:=ih (i+1) (l++[t]) t2 (hd.snoc ht hl) n2 (by omega) (by rw [Nat.add_right_comm];exact hA) (by omega)
   refine ⟨m,l',hd',hA',hm,fun r h=>?_⟩
   refine Ev.step (fun k=>rest_l0_eq k _ _ _) (Ev.bind (order_ev ht ha (by omega) (by omega)) (Ev.itep (by rw [sgn_le];exact c) (Ev.itep (by rw [hd.len];omega) (Ev.bind h2 (hr r h)))))
  ·exact ⟨i,l,hd,by omega,by omega,stop i l t hd ht hl (by omega) (by omega)⟩
theorem rest_down {B:Int} {L:Nat} {l:List (List Int)} {m:Nat} (hB:1≤B) (hL:L≤40) (hm:m≤1000) (hd:Dbl l B L m) (i:Nat):i≤m→∀ (a:List Int) (A:Int),Num a A→a.length≤40→A<2 ^ i*B →
  ∃ r,Ev (fun k=>carrefourref02_rest.l1 k a l ((i:Int)-1)) r∧Num r (A % B)∧r.length≤a.length:=by
 induction i with
 | zero =>
  intro hi a A ha hla hA
  rw [Int.pow_zero,Int.one_mul] at hA
  refine ⟨a,Ev.step (f:=fun _=>some a) (fun k=>?_) (Ev.now _),by rw [Int.emod_eq_of_lt ha.bd hA];exact ha,Nat.le_refl _⟩
  simp only [carrefourref02_rest.l1]
  rw [if_neg (by omega)]
 | succ i ih =>
  intro hi a A ha hla hA
  have e:((i+1:Nat):Int)-1=(i:Int):=by omega
  obtain ⟨ni,li⟩:=hd.num i (by omega)
  have ho:=order_ev ni ha (by omega) (by omega)
  rw [e]
  by_cases c:2 ^ i*B≤A
  ·obtain ⟨s,hs,ns,ls⟩:=minus_ev ha ni (by omega) c
   obtain ⟨u,hu,nu,lu⟩:=trim_ev ns (by omega)
   obtain ⟨r,hr,nr,lr⟩:=ih (by omega) u _ nu (by omega) (by rw [← dbl_two] at hA;omega)
   have em:(A-2 ^ i*B) % B=A % B:=by rw [Int.sub_eq_add_neg,← Int.neg_mul,Int.add_mul_emod_self_right]
   rw [em] at nr
   refine ⟨r,Ev.step (fun k=>rest_l1_eq k _ _ i (by rw [hd.len];omega) (by omega)) (Ev.bind ho (Ev.itep (by rw [sgn_le];exact c) (Ev.bind hs (Ev.bind hu hr)))),nr,by omega⟩
  ·obtain ⟨r,hr,nr,lr⟩:=ih (by omega) a A ha hla (by omega)
   exact ⟨r,Ev.step (fun k=>rest_l1_eq k _ _ i (by rw [hd.len];omega) (by omega)) (Ev.bind ho (Ev.iten (by rw [sgn_le];exact c) hr)),nr,lr⟩
theorem pow_two_16 (n:Nat):(65536:Int) ^ n=2 ^ (16*n):=by
 rw [Int.pow_mul];rfl
theorem pow_le_int {m n:Nat} (h:m≤n):(2:Int) ^ m≤2 ^ n:=by
 have:=Nat.pow_le_pow_right (n:=2) (by decide) h
 exact_mod_cast this
theorem num_small {a:List Int} {A B:Int} (ha:Num a A) (hla:a.length≤40) (hB:1≤B):A<2 ^ (0+640)*B:=by
 have h:=(V_bd ha.good).2
 rw [ha.val,pow_two_16] at h
 have h2:(2:Int) ^ (16*a.length)≤2 ^ 640:=pow_le_int (by omega)
 have h3:(2:Int) ^ 640*1≤2 ^ 640*B:=Int.mul_le_mul_of_nonneg_left hB (Int.le_of_lt (Int.pow_pos (by decide)))
 rw [Nat.zero_add]
 rw [Int.mul_one] at h3
 exact Int.lt_of_lt_of_le h (Int.le_trans h2 h3)
theorem dbl_nil (B:Int) (L:Nat):Dbl [] B L 0:=⟨rfl,fun i hi=>absurd hi (Nat.not_lt_zero _)⟩
theorem rest_ev {a b:List Int} {A B:Int} (ha:Num a A) (hb:Num b B) (hla:a.length≤40) (hlb:b.length≤40) (hB:1≤B):∃ r,Ev (fun k=>carrefourref02_rest.f k a b) r∧Num r (A % B)∧r.length≤a.length:=by
 obtain ⟨m,l,hd,hA,hm,hr⟩:=rest_up ha hla hB hlb 640 0 [] b (dbl_nil B b.length) (by rw [Int.pow_zero,Int.one_mul];exact hb) (by omega) (num_small ha hla hB) (by omega)
 obtain ⟨r,h,nr,lr⟩:=rest_down hB hlb hm hd m (Nat.le_refl _) a A ha hla hA
 exact ⟨r,hr r h,nr,lr⟩
end Go.Proofs.YtenphnkiacfmiaaDoor.Pure
