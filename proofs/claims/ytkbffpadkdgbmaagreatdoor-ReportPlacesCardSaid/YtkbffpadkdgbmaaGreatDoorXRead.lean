/- Whatever reads as a datum of a type is a value of the type's kind, laid in memory as the walks want it: integers, bools, strings, structs, slices, in each other.
   Conditions: none beyond what each theorem's head says. -/
import Derived.Test.YtkbffpadkdgbmaaGreatDoorXBase
import Derived.ProofKit
import Derived.Deep.Slices
import Derived.DataReads
import Derived.DataElems
import Derived.WideShapes
import Derived.OpenShut
namespace Go.Proofs.YtkbffpadkdgbmaaGreatDoor.X
set_option linter.unusedVariables false
open Go.RowKit Go.Deep Go.Proofs.YtkbffpadkdgbmaaGreatDoorW.PrintWords Go.Proofs.YtkbffpadkdgbmaaGreatDoorW.PrintLast Go.Proofs.YtkbffpadkdgbmaaGreatDoorW.PrintMore

/-- What reads at type t is of kind d, and fit. -/
def Rk (P : Program) (t : TypeId) {α : Type} (d : Kd α) (F : α → Prop) : Prop :=
  ∀ {H : Type} (enc : TypeId × Value → H) (w : World) (base : Nat) (spare : Nat → Bool) (held : Bool) (fuel : Nat) (cs : List Value) (x : DataW H × List MemPlace),
    DataW.trod enc P w base spare held fuel t cs = some x → ∃ a, d.K w a cs ∧ F a
theorem Rk.int {P : Program} {t : TypeId} {k : IntKind} (hu : P.underlying t = some (.int k)) : Rk P t (Kd.int k) (fun n => (Lit.int k n).wf = true) := by
  intro H enc w base spare held fuel cs x h
  obtain ⟨n, rfl, _, hw⟩ := DataW.trod_int hu h
  exact ⟨n, rfl, hw⟩
theorem Rk.bool {P : Program} {t : TypeId} (hu : P.underlying t = some .bool) : Rk P t Kd.bool (fun _ => True) := by
  intro H enc w base spare held fuel cs x h
  obtain ⟨b, rfl, _⟩ := DataW.trod_bool hu h
  exact ⟨b, rfl, trivial⟩
theorem Rk.string {P : Program} {t : TypeId} (hu : P.underlying t = some .string) : Rk P t Kd.string (fun s => s.size ≤ maxLen) := by
  intro H enc w base spare held fuel cs x h
  obtain ⟨s, rfl, _, hs⟩ := DataW.trod_string hu h
  exact ⟨s, rfl, hs⟩
theorem choose_list {α : Type} {R : Nat → α → Prop} (n : Nat) (h : ∀ i, i < n → ∃ a, R i a) : ∃ l : List α, l.length = n ∧ ∀ i a, l[i]? = some a → R i a := by
  induction n with
  | zero => exact ⟨[], rfl, fun i a hi => by simp at hi⟩
  | succ n ih =>
    obtain ⟨l, hl, hr⟩ := ih (fun i hi => h i (by omega))
    obtain ⟨a, ha⟩ := h n (by omega)
    refine ⟨l ++ [a], by simp [hl], fun i b hi => ?_⟩
    rw [List.getElem?_append] at hi
    split at hi
    · exact hr i b hi
    · rename_i hlt
      have : i = n := by
        apply Decidable.byContradiction
        intro hne
        rw [List.getElem?_eq_none (by simp; omega)] at hi
        cases hi
      subst this
      rw [hl, Nat.sub_self] at hi
      injection hi with hi
      exact hi ▸ ha
theorem Rk.slice {P : Program} {t e : TypeId} {α : Type} {d : Kd α} {F : α → Prop} (hu : P.underlying t = some (.slice e)) (hc : P.cellsOf e = d.sz) (h : Rk P e d F) :
    Rk P t (Kd.slice e d) (fun l => l.length ≤ maxLen ∧ ∀ a ∈ l, F a) := by
  intro H enc w base spare held fuel cs x hx
  rcases Deep.open_slice hu hx with ⟨rfl, _⟩ | ⟨a, len, cap, m, n, D, Pl, rfl, _, hl, hm, hmm, _, hel⟩
  · refine ⟨[], ⟨none, 0, rfl, Nat.le_refl _, rfl, by simp, fun h0 => by simp at h0⟩, by simp, fun a ha => by cases ha⟩
  · obtain ⟨l, hll, hlr⟩ := choose_list (R := fun i b => (∃ c, c.length = d.sz ∧ d.K w b c ∧ ∀ j u, c[j]? = some u → w.cell? (a.add (i * d.sz + j)) = some u) ∧ F b) len (fun i hi => by
      have hi2 : i < m := by rw [hmm]; split <;> omega
      obtain ⟨cs', h1, h2⟩ := hel i hi2
      obtain ⟨b, hb, hF⟩ := h enc w base spare held n cs' _ h2
      obtain ⟨_, hlen, hcell⟩ := World.cells?_some h1
      refine ⟨b, ⟨cs', by rw [hlen, hc], hb, fun j u hj => ?_⟩, hF⟩
      have hjl : j < P.cellsOf e := by
        rw [← hlen]
        exact (List.getElem?_eq_some_iff.1 hj).1
      have := hcell j hjl
      rw [hj, hc, Addr.add_add] at this
      exact this)
    refine ⟨l, ⟨some a, cap, by rw [hll], by omega, ?_⟩, by omega, fun b hb => ?_⟩
    · refine ⟨rfl, by unfold maxLen at hm; omega, fun _ => ⟨a, rfl, fun j p hj => (hlr j p hj).1⟩⟩
    · obtain ⟨i, hi, rfl⟩ := List.getElem_of_mem hb
      exact (hlr i _ (List.getElem?_eq_getElem hi)).2
/-- What reads as parts (each a type and a place) from a place on is of the pairs' kind. -/
def RkL (P : Program) (fs : List (TypeId × Nat)) {α : Type} (d : Kd α) (F : α → Prop) (off : Nat) : Prop :=
  ∀ {H : Type} (enc : TypeId × Value → H) (w : World) (base : Nat) (spare : Nat → Bool) (held : Bool) (n : Nat) (cs : List Value) (xs : List (DataW H × List MemPlace)), cs.length = d.sz → xs.length = fs.length →
    (∀ (i : Nat) (f : TypeId × Nat), fs[i]? = some f → DataW.trod enc P w base spare held n f.1 ((cs.drop (f.2 - off)).take (P.cellsOf f.1)) = xs[i]?) → ∃ a, d.K w a cs ∧ F a
theorem RkL.one {P : Program} {t : TypeId} {α : Type} {d : Kd α} {F : α → Prop} {off : Nat} (hc : P.cellsOf t = d.sz) (h : Rk P t d F) : RkL P [(t, off)] d F off := by
  intro H enc w base spare held n cs xs hl hx hf
  have h0 := hf 0 (t, off) rfl
  simp only [Nat.sub_self, List.drop_zero] at h0
  rw [hc, List.take_of_length_le (by omega)] at h0
  obtain ⟨x, hx0⟩ : ∃ x, xs[0]? = some x := ⟨xs[0]'(by rw [hx]; exact Nat.zero_lt_one), List.getElem?_eq_getElem _⟩
  rw [hx0] at h0
  exact h enc w base spare held n cs x h0
theorem RkL.cons {P : Program} {t : TypeId} {fs : List (TypeId × Nat)} {α β : Type} {d1 : Kd α} {d2 : Kd β} {F1 : α → Prop} {F2 : β → Prop} {off : Nat} (hc : P.cellsOf t = d1.sz) (h1 : Rk P t d1 F1)
    (hoff : fs.all (fun g => decide (off + d1.sz ≤ g.2)) = true) (h2 : RkL P fs d2 F2 (off + d1.sz)) : RkL P ((t, off) :: fs) (Kd.pair d1 d2) (fun x => F1 x.1 ∧ F2 x.2) off := by
  intro H enc w base spare held n cs xs hl hx hf
  have hsz : cs.length = d1.sz + d2.sz := hl
  have h0 := hf 0 (t, off) rfl
  simp only [Nat.sub_self, List.drop_zero] at h0
  rw [hc] at h0
  obtain ⟨x, xs', rfl⟩ : ∃ x xs', xs = x :: xs' := by
    cases xs with
    | nil => simp at hx
    | cons x xs' => exact ⟨x, xs', rfl⟩
  obtain ⟨a, ha, hF⟩ := h1 enc w base spare held n _ x h0
  obtain ⟨b, hb, hG⟩ := h2 enc w base spare held n (cs.drop d1.sz) xs' (by rw [List.length_drop]; omega) (by simpa using hx) (fun i g hg => by
    have h := hf (i + 1) g hg
    have hgo : off + d1.sz ≤ g.2 := by
      have := List.all_eq_true.1 hoff g (List.mem_of_getElem? hg)
      simpa using this
    have e : d1.sz + (g.2 - (off + d1.sz)) = g.2 - off := by omega
    rw [List.drop_drop, e]
    exact h)
  exact ⟨(a, b), ⟨cs.take d1.sz, cs.drop d1.sz, (List.take_append_drop _ _).symm, ha, hb⟩, hF, hG⟩
theorem Rk.struct {P : Program} {t : TypeId} {fs : Array Field} {α β : Type} {d : Kd α} {F : α → Prop} (f : β → α) (g : α → β) (hu : P.underlying t = some (.struct fs)) (hc : P.cellsOf t = d.sz) (h : RkL P (fs.toList.map fun f => (f.type, f.offset)) d F 0) (hg : ∀ a, f (g a) = a) :
    Rk P t (Kd.iso d f) (fun x => F (f x)) := by
  intro H enc w base spare held fuel cs x hx
  obtain ⟨xs, n, rfl, _, hl, hxl, hf⟩ := DataW.trod_struct hu hx
  obtain ⟨a, ha, hF⟩ := h enc w base spare held n cs xs (by rw [hl, hc]) (by rw [hxl]; simp) (fun i f' hi => by
    rw [List.getElem?_map] at hi
    obtain ⟨q, hq, rfl⟩ := Option.map_eq_some_iff.1 hi
    have := hf i q (by simpa using hq)
    simpa using this)
  refine ⟨g a, ?_, ?_⟩
  · show d.K w (f (g a)) cs
    rw [hg]; exact ha
  · show F (f (g a))
    rw [hg]; exact hF
theorem Rk.structP {P : Program} {t : TypeId} {fs : Array Field} {α : Type} {d : Kd α} {F : α → Prop} (hu : P.underlying t = some (.struct fs)) (hc : P.cellsOf t = d.sz) (h : RkL P (fs.toList.map fun f => (f.type, f.offset)) d F 0) : Rk P t d F := by
  intro H enc w base spare held fuel cs x hx
  exact Rk.struct (fun a => a) (fun a => a) hu hc h (fun _ => rfl) enc w base spare held fuel cs x hx
theorem Rk.arrayP {P : Program} {t e : TypeId} {n : Nat} {α : Type} {d : Kd α} {F : α → Prop} (hu : P.underlying t = some (.array n e)) (hc : P.cellsOf t = d.sz) (h : RkL P ((List.range n).map fun i => (e, i * P.cellsOf e)) d F 0) : Rk P t d F := by
  intro H enc w base spare held fuel cs x hx
  obtain ⟨xs, m, rfl, _, hl, hxl, hf⟩ := DataW.trod_array hu hx
  exact h enc w base spare held m cs xs (by rw [hl, hc]) (by rw [hxl]; simp) (fun i f' hi => by
    rw [List.getElem?_map] at hi
    obtain ⟨q, hq, rfl⟩ := Option.map_eq_some_iff.1 hi
    have hr := List.getElem?_eq_some_iff.1 hq
    obtain ⟨hlt, hv⟩ := hr
    rw [List.getElem_range] at hv
    subst hv
    have := hf i (by simpa using hlt)
    simpa using this)
theorem Rk.imp {P : Program} {t : TypeId} {α : Type} {d : Kd α} {F G : α → Prop} (h : Rk P t d F) (k : ∀ a, F a → G a) : Rk P t d G := by
  intro H enc w base spare held fuel cs x hx
  obtain ⟨a, ha, hF⟩ := h enc w base spare held fuel cs x hx
  exact ⟨a, ha, k a hF⟩
/-- A parameter that reads is a value whose cells are of the kind. -/
theorem Rk.of_trod {P : Program} {t : TypeId} {α : Type} {d : Kd α} {F : α → Prop} (h : Rk P t d F) {H : Type} {enc : TypeId × Value → H} {w : World} {base : Nat} {spare : Nat → Bool} {held : Bool} {v : Value} {x : DataW H} {p : List MemPlace}
    (hx : DataW.Trod enc P w base spare held t v x p) : ∃ a, d.K w a v.cells.toList ∧ F a := by
  obtain ⟨fuel, hf⟩ := hx
  exact h enc w base spare held fuel _ _ hf
theorem okWide_array {P : Program} {w : World} {r : Reach} {base : Nat} {t e : TypeId} {n : Nat} {v : Value} (ht : P.underlying t = some (.array n e)) (h : Value.okWide P w r base t v) : ∃ cs, v = .agg cs ∧ cs.size = P.cellsOf t := by
  simp only [Value.okWide, ht] at h
  obtain ⟨cs, h1, h2, _⟩ := h
  exact ⟨cs, h1, h2⟩
end Go.Proofs.YtkbffpadkdgbmaaGreatDoor.X
