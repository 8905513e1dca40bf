/- Plain laws of the numbers by parts of 16 bits and of the words of 64 bits, and what the printed functions of packages carrefourref01 and whole come to.
   Conditions: as each theorem's head says. -/
import Derived.Test.YtenphnkiacfmiaaDoorXD
import Derived.Laws.MathBits
namespace Go.Proofs.YtenphnkiacfmiaaDoor.Pure
set_option linter.unusedVariables false
open Go.RowKit Go.Proofs.YtenphnkiacfmiaaDoor.X Go.Proofs.YtenphnkiacfmiaaDoorW.PrintWords Go.Proofs.YtenphnkiacfmiaaDoorW.PrintLast Go.Proofs.YtenphnkiacfmiaaDoorW.PrintMore
theorem Ev.eq {α:Type} {x:Option α} {r:α} (h:x=some r):Ev (fun _=>x) r:=⟨0,fun _ _=>h⟩
theorem Ev.itep {α:Type} {c:Prop} [Decidable c] {A B:Nat→Option α} {r:α} (h:c) (k:Ev A r):Ev (fun n=>if c then A n else B n) r:=by
 obtain ⟨K,k⟩:=k
 exact ⟨K,fun n hn=>by show (if c then A n else B n)=some r;rw [if_pos h];exact k n hn⟩
theorem Ev.iten {α:Type} {c:Prop} [Decidable c] {A B:Nat→Option α} {r:α} (h:¬ c) (k:Ev B r):Ev (fun n=>if c then A n else B n) r:=by
 obtain ⟨K,k⟩:=k
 exact ⟨K,fun n hn=>by show (if c then A n else B n)=some r;rw [if_neg h];exact k n hn⟩
theorem Ev.bindc {α β:Type} {x:Option α} {f:Nat→α→Option β} {a:α} {r:β} (h:x=some a) (k:Ev (fun n=>f n a) r):Ev (fun n=>x.bind (f n)) r :=
 Ev.bind (Ev.eq h) k
theorem Ev.eta {α β:Type} {g:Nat→Option (α × β)} {p:α × β} (h:Ev g p):Ev (fun n=>(g n).bind fun b=>some (b.1,b.2)) p:=Ev.bind h (Ev.now _)
def U64 (x:Int):Prop:=0≤x∧x<18446744073709551616
def I64 (x:Int):Prop:=-9223372036854775808≤x∧x<9223372036854775808
theorem w64 {x:Int} (h0:-9223372036854775808≤x) (h1:x<9223372036854775808):wrap64 x=x:=by
 unfold wrap64;omega
theorem u64w {x:Int} (h0:0≤x) (h1:x<18446744073709551616):IntKind.u64.wrap x=x:=by
 rw [IntKind.wrap_u64];omega
def V:List Int→Int
 | []=>0
 | x::xs=>x+65536*V xs
def Good (l:List Int):Prop:=∀ x∈l,0≤x∧x<65536
def dg (l:List Int) (i:Nat):Int:=l.getD i 0
theorem Good.nil:Good []:=by intro x hx;cases hx
theorem Good.cons {x:Int} {l:List Int} (h0:0≤x) (h1:x<65536) (h:Good l):Good (x::l):=by
 intro y hy
 rcases List.mem_cons.1 hy with rfl|hy
 ·exact ⟨h0,h1⟩
 ·exact h y hy
theorem Good.head {x:Int} {l:List Int} (h:Good (x::l)):0≤x∧x<65536:=h x (by simp)
theorem Good.tail {x:Int} {l:List Int} (h:Good (x::l)):Good l:=fun y hy=>h y (by simp [hy])
theorem Good.append {a b:List Int} (h:Good a) (k:Good b):Good (a++b):=by
 intro x hx
 rcases List.mem_append.1 hx with h'|h'
 ·exact h x h'
 ·exact k x h'
theorem Good.snoc {a:List Int} {x:Int} (h:Good a) (h0:0≤x) (h1:x<65536):Good (a++[x]) :=
 h.append (Good.cons h0 h1 Good.nil)
theorem Good.take {a:List Int} (h:Good a) (n:Nat):Good (a.take n):=fun x hx=>h x (List.mem_of_mem_take hx)
theorem Good.drop {a:List Int} (h:Good a) (n:Nat):Good (a.drop n):=fun x hx=>h x (List.mem_of_mem_drop hx)
theorem Good.zeros (n:Nat):Good (List.replicate n 0):=by
 intro x hx
 have:=List.eq_of_mem_replicate hx
 omega
theorem Good.dg {a:List Int} (h:Good a) (i:Nat):0≤dg a i∧dg a i<65536:=by
 unfold Pure.dg
 rw [List.getD_eq_getElem?_getD]
 by_cases hi:i<a.length
 ·rw [List.getElem?_eq_getElem hi];exact h _ (List.getElem_mem hi)
 ·rw [List.getElem?_eq_none (by omega)];decide
theorem dg_past {a:List Int} {i:Nat} (h:a.length≤i):dg a i=0:=by
 unfold dg;rw [List.getD_eq_getElem?_getD,List.getElem?_eq_none (by omega)];rfl
theorem rd_dg (a:List Int) (i:Nat):rd a (i:Int)=dg a i:=by
 unfold rd dg;rw [Int.toNat_natCast]
theorem V_append (a b:List Int):V (a++b)=V a+65536 ^ a.length*V b:=by
 induction a with
 | nil=>simp [V]
 | cons x xs ih =>
  simp only [List.cons_append,V,ih,List.length_cons,Int.pow_succ]
  rw [Int.mul_add,Int.add_assoc]
  congr 1
  rw [← Int.mul_assoc,Int.mul_comm 65536 (65536 ^ xs.length)]
theorem V_one (x:Int):V [x]=x:=by simp [V]
theorem V_snoc (a:List Int) (x:Int):V (a++[x])=V a+65536 ^ a.length*x:=by rw [V_append,V_one]
theorem V_zeros (n:Nat):V (List.replicate n 0)=0:=by
 induction n with
 | zero=>rfl
 | succ n ih=>rw [List.replicate_succ,V,ih];rfl
theorem V_bd {l:List Int} (h:Good l):0≤V l∧V l<65536 ^ l.length:=by
 induction l with
 | nil=>simp [V]
 | cons x xs ih =>
  have:=h.head;have:=ih h.tail
  simp only [V,List.length_cons,Int.pow_succ]
  omega
theorem pow_pos' (n:Nat):0<(65536:Int) ^ n:=Int.pow_pos (by decide)
def W (l:List Int) (i:Nat):Int:=V (l.drop i)
theorem W_zero (l:List Int):W l 0=V l:=by simp [W]
theorem W_past {l:List Int} {i:Nat} (h:l.length≤i):W l i=0:=by
 unfold W;rw [List.drop_eq_nil_of_le h];rfl
theorem W_step (l:List Int) (i:Nat):W l i=dg l i+65536*W l (i+1):=by
 by_cases h:i<l.length
 ·unfold W dg
  rw [List.drop_eq_getElem_cons h,V,List.getD_eq_getElem?_getD,List.getElem?_eq_getElem h];rfl
 ·rw [W_past (by omega),W_past (by omega),dg_past (by omega)];rfl
theorem W_bd {l:List Int} (h:Good l) (i:Nat):0≤W l i:=(V_bd (h.drop i)).1
theorem W_lt {a b:List Int} (ha:Good a) (hb:Good b) (i:Nat):W a i<W b i→V a<V b:=by
 induction i with
 | zero=>rw [W_zero,W_zero];exact id
 | succ i ih =>
  intro h
  apply ih
  rw [W_step a i,W_step b i]
  have:=ha.dg i;have:=hb.dg i
  omega
theorem V_take_succ (l:List Int) (i:Nat):V (l.take (i+1))=V (l.take i)+65536 ^ i*dg l i:=by
 by_cases h:i<l.length
 ·rw [List.take_succ_eq_append_getElem h,V_snoc,List.length_take,Nat.min_eq_left (by omega)]
  unfold dg;rw [List.getD_eq_getElem?_getD,List.getElem?_eq_getElem h];rfl
 ·rw [List.take_of_length_le (by omega),List.take_of_length_le (by omega),dg_past (by omega)];simp
theorem V_split (l:List Int) (i:Nat) (h:i≤l.length):V l=V (l.take i)+65536 ^ i*W l i:=by
 have:=V_append (l.take i) (l.drop i)
 rw [List.take_append_drop,List.length_take,Nat.min_eq_left h] at this
 exact this
theorem V_pad {l:List Int} {i:Nat} (h:l.length≤i):V (l.take i)=V l:=by rw [List.take_of_length_le h]
structure Num (l:List Int) (n:Int):Prop where
 good:Good l
 val:V l=n
theorem Num.bd {l:List Int} {n:Int} (h:Num l n):0≤n:=by rw [← h.val];exact (V_bd h.good).1
theorem parts_step {x:Int} {l:List Int} {i:Int} {r:List Int} (hx:U64 x) (h0:0≤i) (h4:i<4) (hl:l.length<10)
  (k:Ev (fun n=>carrefourref01_Parts.l0 n (x / 65536) (l++[x % 65536]) (i+1)) r):Ev (fun n=>carrefourref01_Parts.l0 n x l i) r:=by
 obtain ⟨hx0,hx1⟩:=hx
 refine Ev.step (f:=fun n=>carrefourref01_Parts.l0 n (x / 65536) (l++[x % 65536]) (i+1)) (fun n=>?_) k
 simp only [carrefourref01_Parts.l0]
 rw [if_pos h4,if_pos (by omega),Int.tdiv_eq_ediv_of_nonneg hx0,Int.tmod_eq_emod_of_nonneg hx0,u64w (by omega) (by omega),w64 (by omega) (by omega)]
theorem parts_ev (u:Int) (hu:U64 u):∃ l,Ev (fun k=>carrefourref01_Parts.f k u) l∧Num l u∧l.length=4:=by
 obtain ⟨h0,h1⟩:=hu
 refine ⟨[u % 65536,u / 65536 % 65536,u / 65536 / 65536 % 65536,u / 65536 / 65536 / 65536 % 65536],?_,⟨?_,?_⟩,rfl⟩
 ·unfold carrefourref01_Parts.f
  refine parts_step ⟨by omega,by omega⟩ (by omega) (by omega) (by simp) ?_
  refine parts_step ⟨by omega,by omega⟩ (by omega) (by omega) (by simp) ?_
  refine parts_step ⟨by omega,by omega⟩ (by omega) (by omega) (by simp) ?_
  refine parts_step ⟨by omega,by omega⟩ (by omega) (by omega) (by simp) ?_
  exact Ev.step (fun n=>by simp only [carrefourref01_Parts.l0];rw [if_neg (by omega)];rfl) (Ev.now _)
 ·exact Good.cons (by omega) (by omega) (Good.cons (by omega) (by omega) (Good.cons (by omega) (by omega) (Good.cons (by omega) (by omega) Good.nil)))
 ·simp only [V];omega
theorem plus_step {a b out:List Int} {c:Int} {i:Nat} {r:List Int} (ha:Good a) (hb:Good b) (hc0:0≤c) (hc1:c≤1) (hi:i<a.length∨i<b.length∨c>0) (hn:i<100000) (hl:out.length<100000)
  (k:Ev (fun n=>carrefourref01_Plus.l0 n a b (out++[(c+dg a i+dg b i) % 65536]) ((c+dg a i+dg b i) / 65536) ((i:Int)+1)) r):Ev (fun n=>carrefourref01_Plus.l0 n a b out c i) r:=by
 have da:=ha.dg i
 have db:=hb.dg i
 have hs0:0≤c+dg a i+dg b i:=by omega
 have hj:Ev (fun n=>carrefourref01_Plus.j1 n a b out c i true) r:=by
  refine Ev.step (f:=fun n=>carrefourref01_Plus.l0 n a b (out++[(c+dg a i+dg b i) % 65536]) ((c+dg a i+dg b i) / 65536) ((i:Int)+1)) (fun n=>?_) k
  simp only [carrefourref01_Plus.j1]
  rw [if_pos trivial]
  by_cases h1:(i:Int)<(a.length:Int)
  ·rw [if_pos h1,if_pos (by omega),rd_dg]
   by_cases h2:(i:Int)<(b.length:Int)
   ·rw [if_pos h2,if_pos (by omega),rd_dg,u64w (x:=c+dg a i) (by omega) (by omega),u64w (x:=c+dg a i+dg b i) (by omega) (by omega),Int.tdiv_eq_ediv_of_nonneg hs0,Int.tmod_eq_emod_of_nonneg hs0,u64w (by omega) (by omega),w64 (by omega) (by omega)]
   ·have e:dg b i=0:=dg_past (by omega)
    rw [e,Int.add_zero] at hs0 ⊢
    rw [if_neg h2,if_pos (by omega),u64w (x:=c+dg a i) (by omega) (by omega),Int.tdiv_eq_ediv_of_nonneg hs0,Int.tmod_eq_emod_of_nonneg hs0,u64w (by omega) (by omega),w64 (by omega) (by omega)]
  ·have e:dg a i=0:=dg_past (by omega)
   rw [e,Int.add_zero] at hs0 ⊢
   rw [if_neg h1]
   by_cases h2:(i:Int)<(b.length:Int)
   ·rw [if_pos h2,if_pos (by omega),if_pos (by omega),rd_dg,u64w (x:=c+dg b i) (by omega) (by omega),Int.tdiv_eq_ediv_of_nonneg hs0,Int.tmod_eq_emod_of_nonneg hs0,u64w (by omega) (by omega),w64 (by omega) (by omega)]
   ·have e:dg b i=0:=dg_past (by omega)
    rw [e,Int.add_zero] at hs0 ⊢
    rw [if_neg h2,if_pos (by omega),Int.tdiv_eq_ediv_of_nonneg hs0,Int.tmod_eq_emod_of_nonneg hs0,u64w (by omega) (by omega),w64 (by omega) (by omega)]
 refine Ev.step (f:=fun n=>carrefourref01_Plus.j1 n a b out c i true) (fun n=>?_) hj
 simp only [carrefourref01_Plus.l0]
 by_cases h1:(i:Int)<(a.length:Int)
 ·rw [if_pos h1]
 ·rw [if_neg h1]
  by_cases h2:(i:Int)<(b.length:Int)
  ·rw [if_pos h2]
  ·rw [if_neg h2,decide_eq_true (by omega)]
theorem plus_end {a b out:List Int} {i:Nat} (h1:a.length≤i) (h2:b.length≤i):Ev (fun n=>carrefourref01_Plus.l0 n a b out 0 i) out:=by
 refine Ev.step (f:=fun n=>carrefourref01_Plus.j1 n a b out 0 i false) (fun n=>?_) (Ev.step (f:=fun _=>some out) (fun n=>?_) (Ev.now out))
 ·simp only [carrefourref01_Plus.l0]
  rw [if_neg (by omega),if_neg (by omega)]
  rfl
 ·simp only [carrefourref01_Plus.j1]
  rw [if_neg (by decide)]
theorem pow_succ' (i:Nat):(65536:Int) ^ (i+1)=65536 ^ i*65536:=Int.pow_succ _ _
theorem plus_loop {a b:List Int} (ha:Good a) (hb:Good b) (hla:a.length<50000) (hlb:b.length<50000) (d:Nat):∀ (i:Nat) (c:Int) (out:List Int),Good out→out.length=i→0≤c→c≤1 →
  V out+65536 ^ i*c=V (a.take i)+V (b.take i)→i+d=max a.length b.length →
  ∃ r,Ev (fun n=>carrefourref01_Plus.l0 n a b out c i) r∧Good r∧V r=V a+V b∧r.length≤max a.length b.length+1∧max a.length b.length≤r.length:=by
 induction d with
 | zero =>
  intro i c out ho hl hc0 hc1 hv hd
  have ea:=V_pad (l:=a) (i:=i) (by omega)
  have eb:=V_pad (l:=b) (i:=i) (by omega)
  rw [ea,eb] at hv
  by_cases hc:c=0
  ·subst hc
   refine ⟨out,plus_end (by omega) (by omega),ho,by omega,by omega,by omega⟩
  ·obtain rfl:c=1:=by omega
   refine ⟨out++[1],plus_step ha hb (by omega) (by omega) (by omega) (by omega) (by omega) ?_,ho.snoc (by omega) (by omega),?_,by simp;omega,by simp;omega⟩
   ·rw [dg_past (a:=a) (i:=i) (by omega),dg_past (a:=b) (i:=i) (by omega)]
    have:=plus_end (a:=a) (b:=b) (out:=out++[1]) (i:=i+1) (by omega) (by omega)
    simpa using this
   ·rw [V_snoc,hl];omega
 | succ d ih =>
  intro i c out ho hl hc0 hc1 hv hd
  have da:=ha.dg i
  have db:=hb.dg i
  have hlt:i<a.length∨i<b.length:=by omega
  obtain ⟨r,hr,h⟩:=ih (i+1) ((c+dg a i+dg b i) / 65536) (out++[(c+dg a i+dg b i) % 65536]) (ho.snoc (by omega) (by omega)) (by simp [hl]) (by omega) (by omega) (by
   rw [V_snoc,V_take_succ,V_take_succ,hl,pow_succ']
   have e:(c+dg a i+dg b i) % 65536+65536*((c+dg a i+dg b i) / 65536)=c+dg a i+dg b i:=Int.emod_add_mul_ediv _ _
   have e2:V out+65536 ^ i*((c+dg a i+dg b i) % 65536)+65536 ^ i*65536*((c+dg a i+dg b i) / 65536)=V out+65536 ^ i*(c+dg a i+dg b i):=by
    rw [Int.mul_assoc,Int.add_assoc,← Int.mul_add,e]
   rw [e2,Int.mul_add,Int.mul_add]
   omega) (by omega)
  exact ⟨r,plus_step ha hb hc0 hc1 (by omega) (by omega) (by omega) hr,h⟩
theorem plus_ev {a b:List Int} {x y:Int} (ha:Num a x) (hb:Num b y) (hla:a.length<50000) (hlb:b.length<50000) :
  ∃ r,Ev (fun n=>carrefourref01_Plus.f n a b) r∧Num r (x+y)∧r.length≤max a.length b.length+1∧max a.length b.length≤r.length:=by
 obtain ⟨r,h1,h2,h3,h4⟩:=plus_loop ha.good hb.good hla hlb (max a.length b.length) 0 0 [] Good.nil rfl (by omega) (by omega) (by simp [V]) (by omega)
 exact ⟨r,h1,⟨h2,by rw [h3,ha.val,hb.val]⟩,h4⟩
theorem times_row_step {x y out row:List Int} {i j:Nat} {c:Int} {r:List Int} (hx:Good x) (hy:Good y) (hxl:x.length=4) (hyl:y.length=4) (hi:i<4) (hj:j<4) (hc0:0≤c) (hc:c<65536) (hl:row.length<100)
  (k:Ev (fun n=>carrefourref01_Times.l1 n x y out i (row++[(dg x i*dg y j+c) % 65536]) ((dg x i*dg y j+c) / 65536) ((j:Int)+1)) r) :
  Ev (fun n=>carrefourref01_Times.l1 n x y out i row c j) r:=by
 have dx:=hx.dg i
 have dy:=hy.dg j
 have p0:0≤dg x i*dg y j:=Int.mul_nonneg dx.1 dy.1
 have p1:dg x i*dg y j≤65535*65535:=Int.mul_le_mul (by omega) (by omega) dy.1 (by omega)
 have hs0:0≤dg x i*dg y j+c:=by omega
 refine Ev.step (f:=fun n=>carrefourref01_Times.l1 n x y out i (row++[(dg x i*dg y j+c) % 65536]) ((dg x i*dg y j+c) / 65536) ((j:Int)+1)) (fun n=>?_) k
 simp only [carrefourref01_Times.l1]
 rw [if_pos (by omega),if_pos (by omega),if_pos (by omega),if_pos (by omega),if_pos (by omega),if_pos (by omega),rd_dg,rd_dg,u64w (x:=dg x i*dg y j) (by omega) (by omega),u64w (x:=dg x i*dg y j+c) (by omega) (by omega),Int.tdiv_eq_ediv_of_nonneg hs0,Int.tmod_eq_emod_of_nonneg hs0,u64w (by omega) (by omega),w64 (by omega) (by omega)]
theorem times_row {x y out:List Int} (hx:Good x) (hy:Good y) (hxl:x.length=4) (hyl:y.length=4) {i:Nat} (hi:i<4) (ho:Good out) (hol:out.length<20) (d:Nat):∀ (j:Nat) (c:Int) (row:List Int) ,Good row→row.length=i+j→0≤c→c<65536 →
  V row+65536 ^ (i+j)*c=65536 ^ i*dg x i*V (y.take j)→j+d=4 →
  ∃ row',Good row'∧V row'=65536 ^ i*dg x i*V y∧row'.length=i+5∧∀ r,(∃ s,Ev (fun n=>carrefourref01_Plus.f n out row') s∧Ev (fun n=>carrefourref01_Times.l0 n x y s ((i:Int)+1)) r)→Ev (fun n=>carrefourref01_Times.l1 n x y out i row c j) r:=by
 induction d with
 | zero =>
  intro j c row hr hl hc0 hc hv hd
  obtain rfl:j=4:=by omega
  refine ⟨row++[c],hr.snoc hc0 hc,?_,by simp [hl],?_⟩
  ·rw [V_snoc,hl,hv,V_pad (by omega)]
  ·rintro r ⟨s,h1,h2⟩
   refine Ev.step (f:=fun n=>(carrefourref01_Plus.f n out (row++[c])).bind fun t=>carrefourref01_Times.l0 n x y t ((i:Int)+1)) (fun n=>?_) (Ev.bind h1 h2)
   simp only [carrefourref01_Times.l1]
   rw [if_neg (by omega),if_pos (by omega),w64 (by omega) (by omega)]
 | succ d ih =>
  intro j c row hr hl hc0 hc hv hd
  have dx:=hx.dg i
  have dy:=hy.dg j
  have p0:0≤dg x i*dg y j:=Int.mul_nonneg dx.1 dy.1
  have p1:dg x i*dg y j≤65535*65535:=Int.mul_le_mul (by omega) (by omega) dy.1 (by omega)
  obtain ⟨row',g,hv',hl',h⟩:=ih (j+1) ((dg x i*dg y j+c) / 65536) (row++[(dg x i*dg y j+c) % 65536]) (hr.snoc (by omega) (by omega)) (by simp [hl];omega) (by omega) (by omega) (by
   rw [V_snoc,V_take_succ,hl,← Nat.add_assoc,pow_succ',Int.mul_assoc,Int.add_assoc,← Int.mul_add,Int.emod_add_mul_ediv,Int.mul_add,Int.mul_add,← hv,Int.pow_add]
   have e:(65536:Int) ^ i*65536 ^ j*(dg x i*dg y j)=65536 ^ i*dg x i*(65536 ^ j*dg y j):=by
    rw [Int.mul_assoc,Int.mul_assoc];congr 1;rw [← Int.mul_assoc,← Int.mul_assoc,Int.mul_comm (65536 ^ j)]
   rw [e];omega) (by omega)
  exact ⟨row',g,hv',hl',fun r hr'=>times_row_step hx hy hxl hyl hi (by omega) hc0 hc (by omega) (h r hr')⟩
theorem times_loop {x y:List Int} (hx:Good x) (hy:Good y) (hxl:x.length=4) (hyl:y.length=4) (d:Nat):∀ (i:Nat) (out:List Int),Good out→out.length<20→out.length≤5+2*i→V out=V (x.take i)*V y→i+d=4 →
  ∃ r,Ev (fun n=>carrefourref01_Times.l0 n x y out i) r∧Good r∧V r=V x*V y∧r.length<20:=by
 induction d with
 | zero =>
  intro i out ho hl hl2 hv hd
  obtain rfl:i=4:=by omega
  refine ⟨out,Ev.step (f:=fun _=>some out) (fun n=>?_) (Ev.now out),ho,by rw [hv,V_pad (by omega)],hl⟩
  simp only [carrefourref01_Times.l0]
  rw [if_neg (by omega)]
 | succ d ih =>
  intro i out ho hl hl2 hv hd
  obtain ⟨row',g,hv',hl',h⟩:=times_row hx hy hxl hyl (i:=i) (by omega) ho hl 4 0 0 (List.replicate i 0) (Good.zeros i) (by simp) (by omega) (by omega) (by rw [V_zeros];simp [V]) (by omega)
  obtain ⟨s,hs,hn,hsl,_⟩:=plus_ev ⟨ho,rfl⟩ ⟨g,rfl⟩ (by omega) (by omega)
  obtain ⟨r,hr,hg,hvr,hrl⟩:=ih (i+1) s hn.good (by omega) (by omega) (by
   rw [hn.val,hv,hv',V_take_succ,Int.add_mul]) (by omega)
  refine ⟨r,Ev.step (f:=fun n=>carrefourref01_Times.l1 n x y out i (List.replicate i 0) 0 0) (fun n=>?_) (h r ⟨s,hs,hr⟩),hg,hvr,hrl⟩
  simp only [carrefourref01_Times.l0]
  rw [if_pos (by omega),if_pos (by omega),if_pos (by omega),Int.toNat_natCast]
theorem times_ev (a b:Int) (ha:U64 a) (hb:U64 b):∃ r,Ev (fun n=>carrefourref01_Times.f n a b) r∧Num r (a*b)∧r.length<20:=by
 obtain ⟨x,hx,nx,lx⟩:=parts_ev a ha
 obtain ⟨y,hy,ny,ly⟩:=parts_ev b hb
 obtain ⟨r,hr,g,v,l⟩:=times_loop nx.good ny.good lx ly 4 0 [] Good.nil (by decide) (by decide) (by simp [V]) (by omega)
 refine ⟨r,?_,⟨g,by rw [v,nx.val,ny.val]⟩,l⟩
 unfold carrefourref01_Times.f
 exact Ev.bind hx (Ev.bind hy hr)
def sgn (a b:Int):Int:=if a<b then -1 else if a>b then 1 else 0
theorem order_loop {a b:List Int} (ha:Good a) (hb:Good b) (hla:a.length<50000) (hlb:b.length<50000) (i:Nat):i≤50000→W a i=W b i→Ev (fun n=>carrefourref01_Order.l0 n a b ((i:Int)-1)) (sgn (V a) (V b)):=by
 induction i with
 | zero =>
  intro _ h
  rw [W_zero,W_zero] at h
  refine Ev.step (f:=fun _=>some (sgn (V a) (V b))) (fun n=>?_) (Ev.now _)
  simp only [carrefourref01_Order.l0]
  rw [if_neg (by omega),h]
  unfold sgn;simp
 | succ i ih =>
  intro hi h
  have e:((i+1:Nat):Int)-1=(i:Int):=by omega
  rw [e]
  have hj2:Ev (fun n=>carrefourref01_Order.j2 n a b i (dg a i) (dg b i)) (sgn (V a) (V b)):=by
   have sa:=W_step a i
   have sb:=W_step b i
   by_cases h1:dg a i<dg b i
   ·refine Ev.step (f:=fun _=>some (-1)) (fun n=>?_) ?_
    ·simp only [carrefourref01_Order.j2];rw [if_pos h1]
    ·have:=W_lt ha hb i (by omega)
     have:sgn (V a) (V b)=-1:=by unfold sgn;rw [if_pos this]
     rw [this];exact Ev.now _
   ·by_cases h2:dg a i>dg b i
    ·refine Ev.step (f:=fun _=>some 1) (fun n=>?_) ?_
     ·simp only [carrefourref01_Order.j2];rw [if_neg h1,if_pos h2]
     ·have:=W_lt hb ha i (by omega)
      have:sgn (V a) (V b)=1:=by unfold sgn;rw [if_neg (by omega),if_pos this]
      rw [this];exact Ev.now _
    ·refine Ev.step (f:=fun n=>carrefourref01_Order.l0 n a b ((i:Int)-1)) (fun n=>?_) (ih (by omega) (by omega))
     simp only [carrefourref01_Order.j2];rw [if_neg h1,if_neg h2,w64 (by omega) (by omega)]
  have hj1:∀ z,(z=dg a i)→Ev (fun n=>carrefourref01_Order.j1 n a b i z 0) (sgn (V a) (V b)):=by
   rintro z rfl
   refine Ev.step (f:=fun n=>carrefourref01_Order.j2 n a b i (dg a i) (dg b i)) (fun n=>?_) hj2
   simp only [carrefourref01_Order.j1]
   by_cases h2:(i:Int)<(b.length:Int)
   ·rw [if_pos h2,if_pos (by omega),rd_dg]
   ·rw [if_neg h2,dg_past (a:=b) (by omega)]
  refine Ev.step (f:=fun n=>carrefourref01_Order.j1 n a b i (dg a i) 0) (fun n=>?_) (hj1 _ rfl)
  simp only [carrefourref01_Order.l0]
  rw [if_pos (by omega)]
  by_cases h1:(i:Int)<(a.length:Int)
  ·rw [if_pos h1,if_pos (by omega),rd_dg]
  ·rw [if_neg h1,dg_past (a:=a) (by omega)]
theorem order_ev {a b:List Int} {x y:Int} (ha:Num a x) (hb:Num b y) (hla:a.length<50000) (hlb:b.length<50000):Ev (fun n=>carrefourref01_Order.f n a b) (sgn x y):=by
 have hm:mx (a.length:Int) (b.length:Int)=((max a.length b.length:Nat):Int):=by unfold mx;split<;>omega
 have h:=order_loop ha.good hb.good hla hlb (max a.length b.length) (by omega) (by rw [W_past (by omega),W_past (by omega)])
 rw [ha.val,hb.val] at h
 unfold carrefourref01_Order.f
 rw [hm,w64 (by omega) (by omega)]
 exact h
theorem minus_step {a b out:List Int} {c:Int} {i:Nat} {r:List Int} (ha:Good a) (hb:Good b) (hc0:0≤c) (hc1:c≤1) (hi:i<a.length) (hn:a.length<100000) (hl:out.length<100000)
  (k:Ev (fun n=>carrefourref01_Minus.l0 n a b (out++[(dg a i-dg b i-c) % 65536]) (if dg a i≥c+dg b i then 0 else 1) ((i:Int)+1)) r):Ev (fun n=>carrefourref01_Minus.l0 n a b out c i) r:=by
 have da:=ha.dg i
 have db:=hb.dg i
 refine Ev.step (f:=fun n=>carrefourref01_Minus.l0 n a b (out++[(dg a i-dg b i-c) % 65536]) (if dg a i≥c+dg b i then 0 else 1) ((i:Int)+1)) (fun n=>?_) k
 simp only [carrefourref01_Minus.l0]
 rw [if_pos (by omega),w64 (x:=(i:Int)+1) (by omega) (by omega)]
 by_cases h2:(i:Int)<(b.length:Int)
 ·rw [if_pos h2,if_pos (by omega),rd_dg,rd_dg,u64w (x:=c+dg b i) (by omega) (by omega)]
  by_cases h3:dg a i≥c+dg b i
  ·rw [if_pos h3,if_pos h3,if_pos (by omega),u64w (by omega) (by omega)]
   have:dg a i-(c+dg b i)=(dg a i-dg b i-c) % 65536:=by omega
   rw [this]
  ·rw [if_neg h3,if_neg h3,if_pos (by omega),u64w (x:=dg a i+65536) (by omega) (by omega),u64w (by omega) (by omega)]
   have:dg a i+65536-(c+dg b i)=(dg a i-dg b i-c) % 65536:=by omega
   rw [this]
 ·have e:dg b i=0:=dg_past (by omega)
  rw [if_neg h2,if_pos (by omega),rd_dg,e,Int.add_zero,Int.sub_zero]
  by_cases h3:dg a i≥c
  ·rw [if_pos h3,if_pos h3,if_pos (by omega),u64w (by omega) (by omega)]
   have:dg a i-c=(dg a i-c) % 65536:=by omega
   rw [← this]
  ·rw [if_neg h3,if_neg h3,if_pos (by omega),u64w (x:=dg a i+65536) (by omega) (by omega),u64w (by omega) (by omega)]
   have:dg a i+65536-c=(dg a i-c) % 65536:=by omega
   rw [this]
theorem minus_loop {a b:List Int} (ha:Good a) (hb:Good b) (hla:a.length<50000) (d:Nat):∀ (i:Nat) (c:Int) (out:List Int),Good out→out.length=i→0≤c→c≤1 →
  V out-65536 ^ i*c=V (a.take i)-V (b.take i)→i+d=a.length →
  ∃ r c',Ev (fun n=>carrefourref01_Minus.l0 n a b out c i) r∧Good r∧0≤c'∧c'≤1∧V r-65536 ^ a.length*c'=V a-V (b.take a.length)∧r.length=a.length:=by
 induction d with
 | zero =>
  intro i c out ho hl hc0 hc1 hv hd
  obtain rfl:i=a.length:=by omega
  rw [List.take_length] at hv
  refine ⟨out,c,Ev.step (f:=fun _=>some out) (fun n=>?_) (Ev.now _),ho,hc0,hc1,hv,hl⟩
  simp only [carrefourref01_Minus.l0]
  rw [if_neg (by omega)]
 | succ d ih =>
  intro i c out ho hl hc0 hc1 hv hd
  have da:=ha.dg i
  have db:=hb.dg i
  obtain ⟨r,c',hr,h⟩:=ih (i+1) (if dg a i≥c+dg b i then 0 else 1) (out++[(dg a i-dg b i-c) % 65536]) (ho.snoc (by omega) (by omega)) (by simp [hl]) (by split<;>omega) (by split<;>omega) (by
   rw [V_snoc,V_take_succ,V_take_succ,hl,pow_succ']
   have e:(dg a i-dg b i-c) % 65536-65536*(if dg a i≥c+dg b i then 0 else 1)=dg a i-dg b i-c:=by split<;>omega
   have e2:V out+65536 ^ i*((dg a i-dg b i-c) % 65536)-65536 ^ i*65536*(if dg a i≥c+dg b i then 0 else 1)=V out+65536 ^ i*(dg a i-dg b i-c):=by
    rw [Int.mul_assoc,Int.add_sub_assoc,← Int.mul_sub,e]
   rw [e2,Int.mul_sub,Int.mul_sub]
   omega) (by omega)
  exact ⟨r,c',minus_step ha hb hc0 hc1 (by omega) (by omega) (by omega) hr,h⟩
theorem minus_ev {a b:List Int} {x y:Int} (ha:Num a x) (hb:Num b y) (hla:a.length<50000) (hle:y≤x):∃ r,Ev (fun n=>carrefourref01_Minus.f n a b) r∧Num r (x-y)∧r.length=a.length:=by
 obtain ⟨r,c,hr,hg,hc0,hc1,hv,hl⟩:=minus_loop ha.good hb.good hla a.length 0 0 [] Good.nil rfl (by omega) (by omega) (by simp [V]) (by omega)
 have ba:=V_bd ha.good
 have br:=V_bd hg
 have hbt:V (b.take a.length)=V b:=by
  by_cases h:b.length≤a.length
  ·exact V_pad h
  ·have s:=V_split b a.length (by omega)
   have w:=W_bd hb.good a.length
   have t:=(V_bd (hb.good.take a.length)).1
   have p:=pow_pos' a.length
   rw [ha.val] at ba
   rw [hb.val] at s
   have:W b a.length=0:=by
    by_cases hw:W b a.length=0
    ·exact hw
    ·have h1:1≤W b a.length:=by omega
     have:=Int.mul_le_mul_of_nonneg_left h1 (Int.le_of_lt p)
     omega
   rw [this] at s
   rw [hb.val]
   omega
 rw [hbt,ha.val,hb.val] at hv
 refine ⟨r,hr,⟨hg,?_⟩,hl⟩
 have hc:c=0:=by
  by_cases hc:c=0
  ·exact hc
  ·obtain rfl:c=1:=by omega
   rw [hl] at br
   omega
 subst hc
 omega
end Go.Proofs.YtenphnkiacfmiaaDoor.Pure
