/- carrefourlaw06.Few answers, whatever the network is.
   Conditions: as each theorem's head says. -/
import Derived.Test.YtfhokgkpcphmlaaGreatDoorP01a
namespace Go.Proofs.YtfhokgkpcphmlaaGreatDoor.Pure
set_option linter.unusedVariables false
open Go.RowKit Go.Proofs.YtfhokgkpcphmlaaGreatDoor.X Go.Proofs.YtfhokgkpcphmlaaGreatDoorW.PrintWords Go.Proofs.YtfhokgkpcphmlaaGreatDoorW.PrintLast Go.Proofs.YtfhokgkpcphmlaaGreatDoorW.PrintMore

def Tot {α : Type} (g : Nat → Option α) : Prop := ∃ r, Ev g r
theorem Tot.now {α : Type} (r : α) : Tot (fun _ => some r) := ⟨r, Ev.now r⟩
theorem Tot.ite {α : Type} {c : Prop} [Decidable c] {A B : Nat → Option α} (h : c → Tot A) (k : ¬ c → Tot B) : Tot (fun n => if c then A n else B n) := by
  by_cases hc : c
  · obtain ⟨r, hr⟩ := h hc; exact ⟨r, Ev.itep hc hr⟩
  · obtain ⟨r, hr⟩ := k hc; exact ⟨r, Ev.iten hc hr⟩
theorem Tot.bind {α β : Type} {g : Nat → Option α} {f : Nat → α → Option β} (h : Tot g) (k : ∀ a, Tot (fun n => f n a)) : Tot (fun n => (g n).bind (f n)) := by
  obtain ⟨a, ha⟩ := h
  obtain ⟨r, hr⟩ := k a
  exact ⟨r, Ev.bind ha hr⟩
theorem Tot.step {α : Type} {g f : Nat → Option α} (h : ∀ k, g (k + 1) = f k) (k : Tot f) : Tot g := by
  obtain ⟨r, hr⟩ := k
  exact ⟨r, Ev.step h hr⟩
theorem up1 {i : Nat} (h : i < 1000) : wrap64 ((i : Int) + 1) = ((i + 1 : Nat) : Int) := by rw [w64 (by omega) (by omega)]; rfl
theorem strings_l0 (l : List ByteArray) (d : Nat) : ∀ i : Nat, i + d = 50 → Tot (fun k => carrefourlaw06_strings.l0 k l (i : Int)) := by
  have no : ∀ i : Nat, Tot (fun k => carrefourlaw06_strings.j1 k l (i : Int) false) := fun i => Tot.step (f := fun _ => some (decide ((l.length : Int) ≤ 50))) (fun k => by simp only [carrefourlaw06_strings.j1]; rw [if_neg (by decide)]) (Tot.now _)
  induction d with
  | zero =>
    intro i hi
    refine Tot.step (f := fun k => if (i : Int) < (l.length : Int) then carrefourlaw06_strings.j1 k l (i : Int) (decide ((i : Int) < 50)) else carrefourlaw06_strings.j1 k l (i : Int) false) (fun k => by simp only [carrefourlaw06_strings.l0]) (Tot.ite (fun _ => ?_) (fun _ => no i))
    rw [decide_eq_false (by omega)]
    exact no i
  | succ d ih =>
    intro i hi
    refine Tot.step (f := fun k => if (i : Int) < (l.length : Int) then carrefourlaw06_strings.j1 k l (i : Int) (decide ((i : Int) < 50)) else carrefourlaw06_strings.j1 k l (i : Int) false) (fun k => by simp only [carrefourlaw06_strings.l0]) (Tot.ite (fun hl => ?_) (fun _ => no i))
    rw [decide_eq_true (by omega)]
    refine Tot.step (f := fun k => if ((rdOf ByteArray.empty l (i : Int)).size : Int) > 100 then some false else carrefourlaw06_strings.l0 k l ((i + 1 : Nat) : Int)) (fun k => ?_) (Tot.ite (fun _ => Tot.now _) (fun _ => ih (i + 1) (by omega)))
    simp only [carrefourlaw06_strings.j1]
    rw [if_pos trivial, if_pos (Int.natCast_nonneg _), if_pos hl, up1 (by omega)]
theorem strings_some (l : List ByteArray) : Tot (fun k => carrefourlaw06_strings.f k l) := strings_l0 l 50 0 (by omega)
section
variable (nm_ : ByteArray) (hs : List S48) (ps : List S54) (fs : List S56) (gs : List S59) (es : List S63) (at_ : Int)
theorem node_l5 (h5 : es.length ≤ 80) (d : Nat) : ∀ i : Nat, es.length = i + d → Tot (fun k => carrefourlaw06_node.l5 k (i : Int) nm_ hs ps fs gs es at_) := by
  induction d with
  | zero =>
    intro i hi
    exact Tot.step (f := fun _ => some true) (fun k => by simp only [carrefourlaw06_node.l5]; rw [if_neg (by omega)]) (Tot.now _)
  | succ d ih =>
    intro i hi
    refine Tot.step (fun k => ?_) (Tot.bind (strings_some [(rd_T63 es (i : Int)).f0, (rd_T63 es (i : Int)).f1]) (f := fun k t => if t = true then carrefourlaw06_node.l5 k ((i + 1 : Nat) : Int) nm_ hs ps fs gs es at_ else some false) (fun t => Tot.ite (fun _ => ih (i + 1) (by omega)) (fun _ => Tot.now _)))
    simp only [carrefourlaw06_node.l5]
    rw [if_pos (by omega), if_pos (by omega), up1 (by omega)]
theorem node_l4 (i : Nat) (hi : i < gs.length) (hr : (rd_T59 gs (i : Int)).f0.length ≤ 5) (K : Tot (fun k => carrefourlaw06_node.l3 k (wrap64 ((i : Int) + 1)) nm_ hs ps fs gs es at_)) (d : Nat) : ∀ j : Nat, (rd_T59 gs (i : Int)).f0.length = j + d → Tot (fun k => carrefourlaw06_node.l4 k (i : Int) (j : Int) nm_ hs ps fs gs es at_) := by
  have g1 : (0 : Int) ≤ (i : Int) := by omega
  have g2 : (i : Int) < (gs.length : Int) := by omega
  induction d with
  | zero =>
    intro j hj
    refine Tot.step (fun k => ?_) K
    simp only [carrefourlaw06_node.l4]
    rw [if_pos g1, if_pos g2, if_neg (by omega)]
  | succ d ih =>
    intro j hj
    refine Tot.step (fun k => ?_) (Tot.bind (strings_some (rd_T61 (rd_T59 gs (i : Int)).f0 (j : Int)).f1) (f := fun k t => if t = true then carrefourlaw06_node.l4 k (i : Int) ((j + 1 : Nat) : Int) nm_ hs ps fs gs es at_ else some false) (fun t => Tot.ite (fun _ => ih (j + 1) (by omega)) (fun _ => Tot.now _)))
    simp only [carrefourlaw06_node.l4]
    rw [if_pos g1, if_pos g2, if_pos (by omega), if_pos (by omega), up1 (by omega)]
theorem node_l3 (h4 : gs.length ≤ 50) (h5 : es.length ≤ 80) (d : Nat) : ∀ i : Nat, gs.length = i + d → Tot (fun k => carrefourlaw06_node.l3 k (i : Int) nm_ hs ps fs gs es at_) := by
  induction d with
  | zero =>
    intro i hi
    refine Tot.step (fun k => ?_) (node_l5 nm_ hs ps fs gs es at_ h5 es.length 0 (by omega))
    simp only [carrefourlaw06_node.l3]
    rw [if_neg (by omega)]
    rfl
  | succ d ih =>
    intro i hi
    refine Tot.step (f := fun k => if (((rd_T59 gs (i : Int)).f0).length : Int) > 5 then some false else carrefourlaw06_node.l4 k (i : Int) ((0 : Nat) : Int) nm_ hs ps fs gs es at_) (fun k => ?_) (Tot.ite (fun _ => Tot.now _) (fun hr => node_l4 nm_ hs ps fs gs es at_ i (by omega) (by omega) (by rw [up1 (by omega)]; exact ih (i + 1) (by omega)) (rd_T59 gs (i : Int)).f0.length 0 (by omega)))
    simp only [carrefourlaw06_node.l3]
    rw [if_pos (by omega), if_pos (by omega)]
    rfl
theorem node_l2 (h3 : fs.length ≤ 50) (h4 : gs.length ≤ 50) (h5 : es.length ≤ 80) (d : Nat) : ∀ i : Nat, fs.length = i + d → Tot (fun k => carrefourlaw06_node.l2 k (i : Int) nm_ hs ps fs gs es at_) := by
  induction d with
  | zero =>
    intro i hi
    refine Tot.step (fun k => ?_) (node_l3 nm_ hs ps fs gs es at_ h4 h5 gs.length 0 (by omega))
    simp only [carrefourlaw06_node.l2]
    rw [if_neg (by omega)]
    rfl
  | succ d ih =>
    intro i hi
    refine Tot.step (fun k => ?_) (Tot.bind (strings_some [(rd_T56 fs (i : Int)).f0]) (f := fun k t => if t = true then ((carrefourlaw06_strings.f k ((rd_T56 fs (i : Int)).f1)).bind fun t197 => (if t197 = true then carrefourlaw06_node.l2 k ((i + 1 : Nat) : Int) nm_ hs ps fs gs es at_ else some false)) else some false) (fun t => Tot.ite (fun _ => Tot.bind (strings_some _) (fun t => Tot.ite (fun _ => ih (i + 1) (by omega)) (fun _ => Tot.now _))) (fun _ => Tot.now _)))
    simp only [carrefourlaw06_node.l2]
    rw [if_pos (by omega), if_pos (by omega), up1 (by omega)]
theorem node_l1 (h2 : ps.length ≤ 50) (h3 : fs.length ≤ 50) (h4 : gs.length ≤ 50) (h5 : es.length ≤ 80) (d : Nat) : ∀ i : Nat, ps.length = i + d → Tot (fun k => carrefourlaw06_node.l1 k (i : Int) nm_ hs ps fs gs es at_) := by
  induction d with
  | zero =>
    intro i hi
    refine Tot.step (fun k => ?_) (node_l2 nm_ hs ps fs gs es at_ h3 h4 h5 fs.length 0 (by omega))
    simp only [carrefourlaw06_node.l1]
    rw [if_neg (by omega)]
    rfl
  | succ d ih =>
    intro i hi
    refine Tot.step (fun k => ?_) (Tot.bind (strings_some [(rd_T54 ps (i : Int)).f0, (rd_T54 ps (i : Int)).f1]) (f := fun k t => if t = true then carrefourlaw06_node.l1 k ((i + 1 : Nat) : Int) nm_ hs ps fs gs es at_ else some false) (fun t => Tot.ite (fun _ => ih (i + 1) (by omega)) (fun _ => Tot.now _)))
    simp only [carrefourlaw06_node.l1]
    rw [if_pos (by omega), if_pos (by omega), up1 (by omega)]
theorem node_l0 (h1 : hs.length ≤ 50) (h2 : ps.length ≤ 50) (h3 : fs.length ≤ 50) (h4 : gs.length ≤ 50) (h5 : es.length ≤ 80) (d : Nat) : ∀ (i : Nat) (x : List ByteArray), hs.length = i + d → x.length = i + 1 → Tot (fun k => carrefourlaw06_node.l0 k x (i : Int) nm_ hs ps fs gs es at_) := by
  induction d with
  | zero =>
    intro i x hi hx
    have hm : mn (x.length : Int) 50 = ((min x.length 50 : Nat) : Int) := by unfold mn; omega
    refine Tot.step (fun k => ?_) (Tot.bind (strings_some (x.take (min x.length 50))) (f := fun k t => if t = true then carrefourlaw06_node.l1 k 0 nm_ hs ps fs gs es at_ else some false) (fun t => Tot.ite (fun _ => node_l1 nm_ hs ps fs gs es at_ h2 h3 h4 h5 ps.length 0 (by omega)) (fun _ => Tot.now _)))
    simp only [carrefourlaw06_node.l0]
    rw [if_neg (by omega), hm, if_pos (by omega), if_pos (by omega), Int.toNat_natCast]
  | succ d ih =>
    intro i x hi hx
    refine Tot.step (fun k => ?_) (ih (i + 1) (x ++ [(rd_T48 hs (i : Int)).f0]) (by omega) (by simp; omega))
    simp only [carrefourlaw06_node.l0]
    rw [if_pos (by omega), if_pos (by omega), if_pos (by omega), up1 (by omega)]
theorem node_some : Tot (fun k => carrefourlaw06_node.f k nm_ hs ps fs gs es at_) := by
  have yes : Tot (fun k => carrefourlaw06_node.j0 k true nm_ hs ps fs gs es at_) := Tot.step (f := fun _ => some false) (fun k => by simp only [carrefourlaw06_node.j0]; rw [if_pos trivial]) (Tot.now _)
  unfold carrefourlaw06_node.f
  refine Tot.ite (fun _ => yes) (fun h1 => Tot.ite (fun _ => yes) (fun h2 => Tot.ite (fun _ => yes) (fun h3 => Tot.ite (fun _ => yes) (fun h4 => ?_))))
  by_cases h5 : (es.length : Int) > 80
  · rw [decide_eq_true h5]; exact yes
  · rw [decide_eq_false h5]
    refine Tot.step (fun k => ?_) (node_l0 nm_ hs ps fs gs es at_ (by omega) (by omega) (by omega) (by omega) (by omega) hs.length 0 [nm_] (by omega) rfl)
    simp only [carrefourlaw06_node.j0]
    rw [if_neg (by decide)]
    rfl
end
section
variable (mn_ mx_ st pn pd : Int) (ns : List S42) (ss : List S45) (wo wi : Int)
theorem few_l1 (h2 : ss.length ≤ 15) (d : Nat) : ∀ i : Nat, ss.length = i + d → Tot (fun k => carrefourlaw06_Few.l1 k (i : Int) mn_ mx_ st pn pd ns ss wo wi) := by
  induction d with
  | zero =>
    intro i hi
    exact Tot.step (f := fun _ => some true) (fun k => by simp only [carrefourlaw06_Few.l1]; rw [if_neg (by omega)]) (Tot.now _)
  | succ d ih =>
    intro i hi
    refine Tot.step (fun k => ?_) (Tot.bind (strings_some [(rd_T45 ss (i : Int)).f0, (rd_T45 ss (i : Int)).f1, (rd_T45 ss (i : Int)).f2]) (f := fun k t => if t = true then carrefourlaw06_Few.l1 k ((i + 1 : Nat) : Int) mn_ mx_ st pn pd ns ss wo wi else some false) (fun t => Tot.ite (fun _ => ih (i + 1) (by omega)) (fun _ => Tot.now _)))
    simp only [carrefourlaw06_Few.l1]
    rw [if_pos (by omega), if_pos (by omega), up1 (by omega)]
theorem few_l0 (h1 : ns.length ≤ 15) (h2 : ss.length ≤ 15) (d : Nat) : ∀ i : Nat, ns.length = i + d → Tot (fun k => carrefourlaw06_Few.l0 k (i : Int) mn_ mx_ st pn pd ns ss wo wi) := by
  induction d with
  | zero =>
    intro i hi
    refine Tot.step (fun k => ?_) (few_l1 mn_ mx_ st pn pd ns ss wo wi h2 ss.length 0 (by omega))
    simp only [carrefourlaw06_Few.l0]
    rw [if_neg (by omega)]
    rfl
  | succ d ih =>
    intro i hi
    refine Tot.step (fun k => ?_) (Tot.bind (node_some (rd_T42 ns (i : Int)).f0 (rd_T42 ns (i : Int)).f1 (rd_T42 ns (i : Int)).f2 (rd_T42 ns (i : Int)).f3 (rd_T42 ns (i : Int)).f4 (rd_T42 ns (i : Int)).f5 (rd_T42 ns (i : Int)).f6) (f := fun k t => if t = true then carrefourlaw06_Few.l0 k ((i + 1 : Nat) : Int) mn_ mx_ st pn pd ns ss wo wi else some false) (fun t => Tot.ite (fun _ => ih (i + 1) (by omega)) (fun _ => Tot.now _)))
    simp only [carrefourlaw06_Few.l0]
    rw [if_pos (by omega), if_pos (by omega), up1 (by omega)]
theorem few_some : Tot (fun k => carrefourlaw06_Few.f k mn_ mx_ st pn pd ns ss wo wi) := by
  have yes : Tot (fun k => carrefourlaw06_Few.j0 k true mn_ mx_ st pn pd ns ss wo wi) := Tot.step (f := fun _ => some false) (fun k => by simp only [carrefourlaw06_Few.j0]; rw [if_pos trivial]) (Tot.now _)
  unfold carrefourlaw06_Few.f
  refine Tot.ite (fun _ => yes) (fun h1 => ?_)
  by_cases h2 : (ss.length : Int) > 15
  · rw [decide_eq_true h2]; exact yes
  · rw [decide_eq_false h2]
    refine Tot.step (fun k => ?_) (few_l0 mn_ mx_ st pn pd ns ss wo wi (by omega) (by omega) ns.length 0 (by omega))
    simp only [carrefourlaw06_Few.j0]
    rw [if_neg (by decide)]
    rfl
end
end Go.Proofs.YtfhokgkpcphmlaaGreatDoor.Pure
