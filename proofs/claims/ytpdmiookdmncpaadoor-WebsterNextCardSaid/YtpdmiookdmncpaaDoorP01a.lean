/- Plain laws of the numbers by parts of 16 bits and of the words of 64 bits, and what the printed functions of packages carrefourref01 and whole come to.
   Conditions: as each theorem's head says. -/
import Derived.Test.YtpdmiookdmncpaaDoorX
import Derived.Laws.MathBits
namespace Go.Proofs.YtpdmiookdmncpaaDoor.Pure
set_option linter.unusedVariables false
open Go.RowKit Go.Proofs.YtpdmiookdmncpaaDoor.X Go.Proofs.YtpdmiookdmncpaaDoorW.PrintWords Go.Proofs.YtpdmiookdmncpaaDoorW.PrintLast Go.Proofs.YtpdmiookdmncpaaDoorW.PrintMore

/-! ### rounds -/
theorem Ev.eq {α : Type} {x : Option α} {r : α} (h : x = some r) : Ev (fun _ => x) r := ⟨0, fun _ _ => h⟩
theorem Ev.itep {α : Type} {c : Prop} [Decidable c] {A B : Nat → Option α} {r : α} (h : c) (k : Ev A r) : Ev (fun n => if c then A n else B n) r := by
  obtain ⟨K, k⟩ := k
  exact ⟨K, fun n hn => by show (if c then A n else B n) = some r; rw [if_pos h]; exact k n hn⟩
theorem Ev.iten {α : Type} {c : Prop} [Decidable c] {A B : Nat → Option α} {r : α} (h : ¬ c) (k : Ev B r) : Ev (fun n => if c then A n else B n) r := by
  obtain ⟨K, k⟩ := k
  exact ⟨K, fun n hn => by show (if c then A n else B n) = some r; rw [if_neg h]; exact k n hn⟩
theorem Ev.bindc {α β : Type} {x : Option α} {f : Nat → α → Option β} {a : α} {r : β} (h : x = some a) (k : Ev (fun n => f n a) r) : Ev (fun n => x.bind (f n)) r :=
  Ev.bind (Ev.eq h) k
theorem Ev.eta {α β : Type} {g : Nat → Option (α × β)} {p : α × β} (h : Ev g p) : Ev (fun n => (g n).bind fun b => some (b.1, b.2)) p := Ev.bind h (Ev.now _)
theorem Ev.uniq {α : Type} {g : Nat → Option α} {a b : α} (h : Ev g a) (k : Ev g b) : a = b := by
  obtain ⟨K, h⟩ := h
  obtain ⟨K', k⟩ := k
  have h1 := h (max K K') (by omega)
  have h2 := k (max K K') (by omega)
  rw [h1] at h2
  exact Option.some.inj h2

def U64 (x : Int) : Prop := 0 ≤ x ∧ x < 18446744073709551616
def I64 (x : Int) : Prop := -9223372036854775808 ≤ x ∧ x < 9223372036854775808
theorem i64_of_wf {x : Int} (h : (Lit.int .i64 x).wf = true) : I64 x := by
  simp [Lit.wf, IntKind.min, IntKind.max, IntKind.signed, IntKind.bits] at h
  exact ⟨by omega, by omega⟩
theorem w64 {x : Int} (h0 : -9223372036854775808 ≤ x) (h1 : x < 9223372036854775808) : wrap64 x = x := by
  unfold wrap64; omega
theorem u64w {x : Int} (h0 : 0 ≤ x) (h1 : x < 18446744073709551616) : IntKind.u64.wrap x = x := by
  rw [IntKind.wrap_u64]; omega

/-! ### numbers by parts -/
/-- the number that a row of parts of 16 bits stands for -/
def V : List Int → Int
  | [] => 0
  | x :: xs => x + 65536 * V xs
def Good (l : List Int) : Prop := ∀ x ∈ l, 0 ≤ x ∧ x < 65536
def dg (l : List Int) (i : Nat) : Int := l.getD i 0
theorem Good.nil : Good [] := by intro x hx; cases hx
theorem Good.cons {x : Int} {l : List Int} (h0 : 0 ≤ x) (h1 : x < 65536) (h : Good l) : Good (x :: l) := by
  intro y hy
  rcases List.mem_cons.1 hy with rfl | hy
  · exact ⟨h0, h1⟩
  · exact h y hy
theorem Good.head {x : Int} {l : List Int} (h : Good (x :: l)) : 0 ≤ x ∧ x < 65536 := h x (by simp)
theorem Good.tail {x : Int} {l : List Int} (h : Good (x :: l)) : Good l := fun y hy => h y (by simp [hy])
theorem Good.append {a b : List Int} (h : Good a) (k : Good b) : Good (a ++ b) := by
  intro x hx
  rcases List.mem_append.1 hx with h' | h'
  · exact h x h'
  · exact k x h'
theorem Good.snoc {a : List Int} {x : Int} (h : Good a) (h0 : 0 ≤ x) (h1 : x < 65536) : Good (a ++ [x]) :=
  h.append (Good.cons h0 h1 Good.nil)
theorem Good.take {a : List Int} (h : Good a) (n : Nat) : Good (a.take n) := fun x hx => h x (List.mem_of_mem_take hx)
theorem Good.drop {a : List Int} (h : Good a) (n : Nat) : Good (a.drop n) := fun x hx => h x (List.mem_of_mem_drop hx)
theorem Good.zeros (n : Nat) : Good (List.replicate n 0) := by
  intro x hx
  have := List.eq_of_mem_replicate hx
  omega
theorem Good.dg {a : List Int} (h : Good a) (i : Nat) : 0 ≤ dg a i ∧ dg a i < 65536 := by
  unfold Pure.dg
  rw [List.getD_eq_getElem?_getD]
  by_cases hi : i < a.length
  · rw [List.getElem?_eq_getElem hi]; exact h _ (List.getElem_mem hi)
  · rw [List.getElem?_eq_none (by omega)]; decide
theorem dg_past {a : List Int} {i : Nat} (h : a.length ≤ i) : dg a i = 0 := by
  unfold dg; rw [List.getD_eq_getElem?_getD, List.getElem?_eq_none (by omega)]; rfl
theorem rd_dg (a : List Int) (i : Nat) : rd a (i : Int) = dg a i := by
  unfold rd dg; rw [Int.toNat_natCast]
theorem V_append (a b : List Int) : V (a ++ b) = V a + 65536 ^ a.length * V b := by
  induction a with
  | nil => simp [V]
  | cons x xs ih =>
    simp only [List.cons_append, V, ih, List.length_cons, Int.pow_succ]
    rw [Int.mul_add, Int.add_assoc]
    congr 1
    rw [← Int.mul_assoc, Int.mul_comm 65536 (65536 ^ xs.length)]
theorem V_one (x : Int) : V [x] = x := by simp [V]
theorem V_snoc (a : List Int) (x : Int) : V (a ++ [x]) = V a + 65536 ^ a.length * x := by rw [V_append, V_one]
theorem V_zeros (n : Nat) : V (List.replicate n 0) = 0 := by
  induction n with
  | zero => rfl
  | succ n ih => rw [List.replicate_succ, V, ih]; rfl
theorem V_bd {l : List Int} (h : Good l) : 0 ≤ V l ∧ V l < 65536 ^ l.length := by
  induction l with
  | nil => simp [V]
  | cons x xs ih =>
    have := h.head; have := ih h.tail
    simp only [V, List.length_cons, Int.pow_succ]
    omega
theorem pow_pos' (n : Nat) : 0 < (65536 : Int) ^ n := Int.pow_pos (by decide)
/-- the number that the parts from the i-th on stand for -/
def W (l : List Int) (i : Nat) : Int := V (l.drop i)
theorem W_zero (l : List Int) : W l 0 = V l := by simp [W]
theorem W_past {l : List Int} {i : Nat} (h : l.length ≤ i) : W l i = 0 := by
  unfold W; rw [List.drop_eq_nil_of_le h]; rfl
theorem W_step (l : List Int) (i : Nat) : W l i = dg l i + 65536 * W l (i + 1) := by
  by_cases h : i < l.length
  · unfold W dg
    rw [List.drop_eq_getElem_cons h, V, List.getD_eq_getElem?_getD, List.getElem?_eq_getElem h]; rfl
  · rw [W_past (by omega), W_past (by omega), dg_past (by omega)]; rfl
theorem W_bd {l : List Int} (h : Good l) (i : Nat) : 0 ≤ W l i := (V_bd (h.drop i)).1
theorem W_lt {a b : List Int} (ha : Good a) (hb : Good b) (i : Nat) : W a i < W b i → V a < V b := by
  induction i with
  | zero => rw [W_zero, W_zero]; exact id
  | succ i ih =>
    intro h
    apply ih
    rw [W_step a i, W_step b i]
    have := ha.dg i; have := hb.dg i
    omega
theorem V_take_succ (l : List Int) (i : Nat) : V (l.take (i + 1)) = V (l.take i) + 65536 ^ i * dg l i := by
  by_cases h : i < l.length
  · rw [List.take_succ_eq_append_getElem h, V_snoc, List.length_take, Nat.min_eq_left (by omega)]
    unfold dg; rw [List.getD_eq_getElem?_getD, List.getElem?_eq_getElem h]; rfl
  · rw [List.take_of_length_le (by omega), List.take_of_length_le (by omega), dg_past (by omega)]; simp
theorem V_split (l : List Int) (i : Nat) (h : i ≤ l.length) : V l = V (l.take i) + 65536 ^ i * W l i := by
  have := V_append (l.take i) (l.drop i)
  rw [List.take_append_drop, List.length_take, Nat.min_eq_left h] at this
  exact this
theorem V_pad {l : List Int} {i : Nat} (h : l.length ≤ i) : V (l.take i) = V l := by rw [List.take_of_length_le h]

/-- A row of parts that stands for n. -/
structure Num (l : List Int) (n : Int) : Prop where
  good : Good l
  val : V l = n
theorem Num.bd {l : List Int} {n : Int} (h : Num l n) : 0 ≤ n := by rw [← h.val]; exact (V_bd h.good).1

end Go.Proofs.YtpdmiookdmncpaaDoor.Pure
