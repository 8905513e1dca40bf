/- The reference's orders, one behind the other: the row at each place.
   Conditions: as each theorem's head says. -/
import Derived.Test.YtnhnmbfhepeadaaP13b
namespace Go.Proofs.Ytnhnmbfhepeadaa.Pure
set_option linter.unusedVariables false
open Go.RowKit Go.Proofs.Ytnhnmbfhepeadaa.X Go.Proofs.YtnhnmbfhepeadaaW.PrintWords Go.Proofs.YtnhnmbfhepeadaaW.PrintLast Go.Proofs.YtnhnmbfhepeadaaW.PrintMore

theorem has_l0 (l : List Int) (v : Int) (hn : l.length < 9223372036854775807) (d : Nat) : ∀ i : Nat, l.length = i + d → Ev (fun k => carrefourref13_has.l0 k l v (i : Int)) (decide (v ∈ l.drop i)) := by
  induction d with
  | zero =>
    intro i hi
    refine Ev.step (f := fun _ => some false) (fun k => ?_) (by rw [List.drop_eq_nil_of_le (by omega)]; exact Ev.now _)
    simp only [carrefourref13_has.l0]
    rw [if_neg (by omega)]
  | succ d ih =>
    intro i hi
    have hw : wrap64 ((i : Int) + 1) = ((i + 1 : Nat) : Int) := by rw [w64 (by omega) (by omega)]; omega
    have ea : l.drop i = l.getD i 0 :: l.drop (i + 1) := by rw [getD_get (by omega)]; exact List.drop_eq_getElem_cons (by omega)
    have H : Ev (fun k => if l.getD i 0 = v then some true else carrefourref13_has.l0 k l v ((i + 1 : Nat) : Int)) (decide (v ∈ l.drop i)) := by
      by_cases h : l.getD i 0 = v
      · have : decide (v ∈ l.drop i) = true := decide_eq_true (by rw [ea, h]; exact List.mem_cons_self)
        rw [this]
        exact Ev.itep h (Ev.now _)
      · have : decide (v ∈ l.drop i) = decide (v ∈ l.drop (i + 1)) := by rw [ea]; simp only [List.mem_cons, decide_eq_decide]; exact ⟨fun e => e.resolve_left (fun e => h e.symm), .inr⟩
        rw [this]
        exact Ev.iten h (ih (i + 1) (by omega))
    refine Ev.step (fun k => ?_) H
    simp only [carrefourref13_has.l0]
    rw [if_pos (by omega), if_pos (by omega), hw, rd_nat]
theorem has_ev (l : List Int) (v : Int) (hn : l.length < 9223372036854775807) : Ev (fun k => carrefourref13_has.f k l v) (decide (v ∈ l)) := by
  have := has_l0 l v hn l.length 0 (by omega)
  unfold carrefourref13_has.f
  simpa using this
/-! ### the orders by steps -/
def free (n : Nat) (p : List Int) : List Int := (up n).filter fun w => decide (w ∉ p)
def step (n : Nat) (L : List (List Int)) : List (List Int) := L.flatMap fun p => (free n p).map fun w => p ++ [w]
def steps (n : Nat) : Nat → List (List Int) → List (List Int)
  | 0, L => L
  | m + 1, L => steps n m (step n L)
theorem free_len (n : Nat) (p : List Int) : (free n p).length ≤ n := by
  have := List.length_filter_le (fun w => decide (w ∉ p)) (up n)
  rw [up_length] at this
  exact this
theorem step_len (n : Nat) (L : List (List Int)) : (step n L).length ≤ n * L.length := by
  induction L with
  | nil => simp [step]
  | cons p L ih =>
    have := free_len n p
    simp only [step, List.flatMap_cons, List.length_append, List.length_map, List.length_cons] at ih ⊢
    rw [Nat.mul_add]; omega
theorem up_drop {n v : Nat} (h : v < n) : (up n).drop v = (v : Int) :: (up n).drop (v + 1) := by
  have : v < (up n).length := by rw [up_length]; exact h
  rw [List.drop_eq_getElem_cons this]
  simp [up]
theorem Orders_l2 (n : Nat) (hn : n ≤ 8) (L : List (List Int)) (i j : Nat) (hj : j < L.length) (hr : (L.getD j []).length ≤ 8) {r : List (List Int)} (d : Nat) :
    ∀ (v : Nat) (acc : List (List Int)), n = v + d → acc.length + d < 5864062014805 →
    Ev (fun k => carrefourref13_Orders.l1 k (n : Int) L (i : Int) (acc ++ (((up n).drop v).filter fun w => decide (w ∉ L.getD j [])).map fun w => L.getD j [] ++ [w]) (wrap64 ((j : Int) + 1))) r →
    Ev (fun k => carrefourref13_Orders.l2 k (n : Int) L (i : Int) acc (j : Int) (v : Int)) r := by
  have erd : rd_L1 L (j : Int) = L.getD j [] := by unfold rd_L1; rw [Int.toNat_natCast]
  generalize hp : L.getD j [] = p at *
  induction d with
  | zero =>
    intro v acc hv ha H
    rw [List.drop_eq_nil_of_le (by rw [up_length]; omega)] at H
    simp only [List.filter_nil, List.map_nil, List.append_nil] at H
    refine Ev.step (fun k => ?_) H
    simp only [carrefourref13_Orders.l2]
    rw [if_neg (by omega)]
  | succ d ih =>
    intro v acc hv ha H
    rw [up_drop (by omega)] at H
    have hw : wrap64 ((v : Int) + 1) = ((v + 1 : Nat) : Int) := by rw [w64 (by omega) (by omega)]; omega
    have H2 : Ev (fun k => (carrefourref13_has.f k p (v : Int)).bind fun t144 => if t144 = true then carrefourref13_Orders.l2 k (n : Int) L (i : Int) acc (j : Int) ((v + 1 : Nat) : Int) else carrefourref13_Orders.l2 k (n : Int) L (i : Int) (acc ++ [p ++ [(v : Int)]]) (j : Int) ((v + 1 : Nat) : Int)) r := by
      refine Ev.bind (has_ev p (v : Int) (by omega)) ?_
      by_cases h : (v : Int) ∈ p
      · refine Ev.itep (decide_eq_true h) (ih (v + 1) acc (by omega) (by omega) ?_)
        rwa [List.filter_cons_of_neg (by simp [h])] at H
      · refine Ev.iten (by simp [h]) (ih (v + 1) _ (by omega) (by simp; omega) ?_)
        rw [List.filter_cons_of_pos (by simp [h]), List.map_cons] at H
        rwa [List.append_assoc]
    refine Ev.step (fun k => ?_) H2
    simp only [carrefourref13_Orders.l2]
    rw [if_pos (by omega), if_pos (by omega), if_pos (by omega), hw, erd]
    simp only [Option.bind_some, List.nil_append, List.length_nil, Nat.zero_add]
    rw [if_pos (by omega), if_pos (by omega), if_pos (by omega)]
theorem Orders_l1 (n : Nat) (hn : n ≤ 8) (L : List (List Int)) (i : Nat) (hL : L.length ≤ 16777216) (hr : ∀ p ∈ L, p.length ≤ 8) {r : List (List Int)} (d : Nat) :
    ∀ (j : Nat) (acc : List (List Int)), L.length = j + d → acc.length ≤ 8 * j →
    Ev (fun k => carrefourref13_Orders.l0 k (n : Int) (acc ++ step n (L.drop j)) (wrap64 ((i : Int) + 1))) r →
    Ev (fun k => carrefourref13_Orders.l1 k (n : Int) L (i : Int) acc (j : Int)) r := by
  induction d with
  | zero =>
    intro j acc hj ha H
    rw [List.drop_eq_nil_of_le (by omega)] at H
    simp only [step, List.flatMap_nil, List.append_nil] at H
    refine Ev.step (fun k => ?_) H
    simp only [carrefourref13_Orders.l1]
    rw [if_neg (by omega)]
  | succ d ih =>
    intro j acc hj ha H
    have hlt : j < L.length := by omega
    have hw : wrap64 ((j : Int) + 1) = ((j + 1 : Nat) : Int) := by rw [w64 (by omega) (by omega)]; omega
    have e : L.getD j [] = L[j] := by rw [List.getD_eq_getElem?_getD, List.getElem?_eq_getElem hlt]; rfl
    have hm : L.getD j [] ∈ L := by rw [e]; exact List.getElem_mem hlt
    rw [List.drop_eq_getElem_cons hlt, step, List.flatMap_cons, ← e, ← List.append_assoc] at H
    have hf := free_len n (L.getD j [])
    have H2 := ih (j + 1) (acc ++ (free n (L.getD j [])).map fun w => L.getD j [] ++ [w]) (by omega) (by rw [List.length_append, List.length_map]; omega) H
    have H3 := Orders_l2 n hn L i j hlt (hr _ hm) n 0 acc (by omega) (by omega) (by rw [hw]; exact H2)
    refine Ev.step (fun k => ?_) H3
    simp only [carrefourref13_Orders.l1]
    rw [if_pos (by omega)]
    rfl
theorem step_mem {n : Nat} {L : List (List Int)} {m : Nat} (h : ∀ p ∈ L, p.length ≤ m) : ∀ p ∈ step n L, p.length ≤ m + 1 := by
  intro p hp
  unfold step at hp
  obtain ⟨q, hq, hp⟩ := List.mem_flatMap.1 hp
  obtain ⟨w, _, rfl⟩ := List.mem_map.1 hp
  have := h q hq
  simp; omega
theorem Orders_l0 (n : Nat) (hn : n ≤ 8) (d : Nat) : ∀ (i : Nat) (L : List (List Int)), n = i + d → L.length ≤ 8 ^ i → (∀ p ∈ L, p.length ≤ i) → Ev (fun k => carrefourref13_Orders.l0 k (n : Int) L (i : Int)) (steps n d L) := by
  induction d with
  | zero =>
    intro i L hi _ _
    refine Ev.step (f := fun _ => some L) (fun k => ?_) (Ev.now _)
    simp only [carrefourref13_Orders.l0]
    rw [if_neg (by omega)]
  | succ d ih =>
    intro i L hi hL hr
    have h8 : 8 ^ i ≤ 8 ^ 8 := Nat.pow_le_pow_right (by decide) (by omega)
    have hw : wrap64 ((i : Int) + 1) = ((i + 1 : Nat) : Int) := by rw [w64 (by omega) (by omega)]; omega
    have hs := step_len n L
    have hs2 : n * L.length ≤ 8 * 8 ^ i := Nat.mul_le_mul hn hL
    have H := ih (i + 1) (step n L) (by omega) (by rw [Nat.pow_succ]; omega) (step_mem hr)
    have H1 := Orders_l1 n hn L i (Nat.le_trans hL h8) (fun p hp => Nat.le_trans (hr p hp) (by omega)) L.length 0 [] (by omega) (by simp) (by rw [hw]; exact H)
    refine Ev.step (fun k => ?_) H1
    simp only [carrefourref13_Orders.l0]
    rw [if_pos (by omega)]
    rfl
def ordsZ (n : Int) : List (List Int) := if 0 ≤ n ∧ n ≤ 8 then steps n.toNat n.toNat [[]] else []
theorem Orders_ev (n : Int) : Ev (fun k => carrefourref13_Orders.f k n) (ordsZ n) := by
  unfold carrefourref13_Orders.f ordsZ
  by_cases h : n < 0
  · rw [if_neg (by omega)]
    exact Ev.itep h (Ev.step (f := fun _ => some []) (fun k => by simp [carrefourref13_Orders.j0]) (Ev.now _))
  · refine Ev.iten h ?_
    by_cases h1 : n > 8
    · rw [if_neg (by omega), decide_eq_true h1]
      exact Ev.step (f := fun _ => some []) (fun k => by simp [carrefourref13_Orders.j0]) (Ev.now _)
    · obtain ⟨m, rfl⟩ := Int.eq_ofNat_of_zero_le (Int.not_lt.1 h)
      rw [if_pos (by omega), decide_eq_false h1, Int.toNat_natCast]
      refine Ev.step (fun k => ?_) (Orders_l0 m (by omega) m 0 [[]] (by omega) (by simp) (by simp))
      simp only [carrefourref13_Orders.j0]
      rfl
/-! ### the orders by places -/
theorem range_mul (a b : Nat) (f : Nat → List Int) : (List.range (a * b)).map f = (List.range a).flatMap fun j => (List.range b).map fun r => f (j * b + r) := by
  induction a with
  | zero => simp
  | succ a ih =>
    rw [Nat.succ_mul, List.range_add, List.map_append, ih, List.range_succ, List.flatMap_append, List.map_map]
    simp [Function.comp_def]
theorem flatMap_range {β : Type} (l : List Int) (f : Int → List β) : l.flatMap f = (List.range l.length).flatMap fun j => f (l.getD j 0) := by
  induction l with
  | nil => simp
  | cons x l ih =>
    rw [List.flatMap_cons, ih, List.length_cons, List.range_succ_eq_map, List.flatMap_cons, List.flatMap_map]
    rfl
theorem nth_all (m : Nat) (left : List Int) (hl : left.length = m + 1) : (List.range (fac (m + 1))).map (nth (m + 1) left) = (List.range (m + 1)).flatMap fun j => ((List.range (fac m)).map (nth m (left.eraseIdx j))).map fun t => left.getD j 0 :: t := by
  rw [fac, range_mul]
  congr 1
  funext j
  rw [List.map_map]
  apply List.map_congr_left
  intro r hr
  have hr' : r < fac m := List.mem_range.1 hr
  have hp := fac_pos m
  have e1 : (j * fac m + r) / fac m = j := by rw [Nat.add_comm, Nat.add_mul_div_right _ _ hp, Nat.div_eq_of_lt hr', Nat.zero_add]
  have e2 : (j * fac m + r) % fac m = r := by rw [Nat.add_comm, Nat.add_mul_mod_self_right, Nat.mod_eq_of_lt hr']
  simp only [nth, e1, e2, Function.comp]
theorem steps_append (n m : Nat) : ∀ A B : List (List Int), steps n m (A ++ B) = steps n m A ++ steps n m B := by
  induction m with
  | zero => intro A B; rfl
  | succ m ih => intro A B; simp only [steps]; rw [← ih]; simp [step]
theorem steps_nil (n m : Nat) : steps n m [] = [] := by
  induction m with
  | zero => rfl
  | succ m ih => simp only [steps]; rw [show step n [] = [] from rfl, ih]
theorem steps_flat (n m : Nat) (f : Int → List Int) (l : List Int) : steps n m (l.map f) = l.flatMap fun v => steps n m [f v] := by
  induction l with
  | nil => simp [steps_nil]
  | cons x l ih => rw [List.map_cons, ← List.singleton_append, steps_append, ih, List.flatMap_cons]
theorem free_nodup (n : Nat) (p : List Int) : (free n p).Nodup := (up_nodup n).filter _
theorem filter_erase {l : List Int} (h : l.Nodup) {j : Nat} (hj : j < l.length) : l.filter (fun w => decide (w ≠ l.getD j 0)) = l.eraseIdx j := by
  induction l generalizing j with
  | nil => simp at hj
  | cons x l ih =>
    obtain ⟨hx, hl⟩ := List.nodup_cons.1 h
    cases j with
    | zero =>
      rw [List.eraseIdx_cons_zero, List.getD_cons_zero, List.filter_cons_of_neg (by simp)]
      rw [List.filter_eq_self]
      intro a ha
      simp only [decide_eq_true_eq]
      intro e
      exact hx (e ▸ ha)
    | succ j =>
      have hj' : j < l.length := by simpa using hj
      rw [List.eraseIdx_cons_succ, List.getD_cons_succ, List.filter_cons_of_pos, ih hl hj']
      simp only [decide_eq_true_eq]
      rw [getD_get hj']
      intro e
      exact hx (e ▸ List.getElem_mem hj')
theorem free_snoc (n : Nat) (p : List Int) {j : Nat} (hj : j < (free n p).length) : free n (p ++ [(free n p).getD j 0]) = (free n p).eraseIdx j := by
  rw [← filter_erase (free_nodup n p) hj]
  generalize (free n p).getD j 0 = v
  unfold free
  rw [List.filter_filter]
  congr 1
  funext w
  by_cases h1 : w ∈ p <;> by_cases h2 : w = v <;> simp [h1, h2]
theorem flatMap_congr_ {α β : Type} {l : List α} {f g : α → List β} (h : ∀ x ∈ l, f x = g x) : l.flatMap f = l.flatMap g := by
  induction l with
  | nil => rfl
  | cons x l ih => rw [List.flatMap_cons, List.flatMap_cons, h x List.mem_cons_self, ih fun y hy => h y (List.mem_cons_of_mem _ hy)]
theorem steps_nth (n m : Nat) : ∀ p : List Int, (free n p).length = m → steps n m [p] = ((List.range (fac m)).map (nth m (free n p))).map fun t => p ++ t := by
  induction m with
  | zero =>
    intro p _
    simp [steps, fac, nth]
  | succ m ih =>
    intro p hp
    have e : step n [p] = (free n p).map fun w => p ++ [w] := by simp [step]
    simp only [steps]
    rw [e, steps_flat, flatMap_range, hp, nth_all m _ hp, List.map_flatMap]
    apply flatMap_congr_
    intro j hj
    have hj' : j < (free n p).length := by rw [hp]; exact List.mem_range.1 hj
    have hf := free_snoc n p hj'
    have hlen : (free n (p ++ [(free n p).getD j 0])).length = m := by rw [hf, List.length_eraseIdx, if_pos hj', hp]; rfl
    rw [ih _ hlen, hf]
    simp [List.map_map, Function.comp_def, List.append_assoc]
theorem ords_eq (n : Nat) : steps n n [[]] = (List.range (fac n)).map (nth n (up n)) := by
  have e : free n [] = up n := by unfold free; rw [List.filter_eq_self]; simp
  rw [steps_nth n n [] (by rw [e, up_length]), e]
  simp
end Go.Proofs.Ytnhnmbfhepeadaa.Pure
