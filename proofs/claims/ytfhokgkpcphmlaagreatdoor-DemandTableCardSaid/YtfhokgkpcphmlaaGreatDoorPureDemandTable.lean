/- The pure law DemandTable: what all flow ratios of any network are, or the first that is refused.
   Conditions: none beyond the kinds of the arguments. -/
import Derived.Test.YtfhokgkpcphmlaaGreatDoorP09a
import Derived.Test.YtfhokgkpcphmlaaGreatDoorP06a
import Derived.Test.YtfhokgkpcphmlaaGreatDoorXKDemandTable
namespace Go.Proofs.YtfhokgkpcphmlaaGreatDoor.Pure
set_option linter.unusedVariables false
open Go.RowKit Go.Proofs.YtfhokgkpcphmlaaGreatDoor.X Go.Proofs.YtfhokgkpcphmlaaGreatDoor.X.KDemandTable Go.Proofs.YtfhokgkpcphmlaaGreatDoorW.PrintWords Go.Proofs.YtfhokgkpcphmlaaGreatDoorW.PrintLast Go.Proofs.YtfhokgkpcphmlaaGreatDoorW.PrintMore
theorem getD_mem {α : Type} {l : List α} {i : Nat} (h : i < l.length) (z : α) : l.getD i z ∈ l := by
  rw [List.getD_eq_getElem?_getD, List.getElem?_eq_getElem h]
  exact List.getElem_mem _
section
variable {nm_ : ByteArray} {hs : List S48} {ps : List S54} {fs : List S56} {gs : List S59} {es : List S63} {at_ : Int}
theorem node_heads {k : Nat} (h : carrefourlaw06_node.f k nm_ hs ps fs gs es at_ = some true) : hs.length ≤ 50 := by
  by_cases c : (hs.length : Int) > 50
  · unfold carrefourlaw06_node.f at h
    rw [if_pos c] at h
    cases k with
    | zero => simp [carrefourlaw06_node.j0] at h
    | succ k => simp [carrefourlaw06_node.j0] at h
  · omega
end
section
variable {mn_ mx_ st p0 p1 : Int} {ns : List S42} {ss : List S45} {wo wi : Int}
theorem few_heads0 (k : Nat) : ∀ i : Nat, ns.length ≤ 15 → carrefourlaw06_Few.l0 k (i : Int) mn_ mx_ st p0 p1 ns ss wo wi = some true → ∀ j : Nat, i ≤ j → j < ns.length → (rd_T42 ns (j : Int)).f1.length ≤ 50 := by
  induction k with
  | zero => intro i hn h; simp [carrefourlaw06_Few.l0] at h
  | succ k ih =>
    intro i hn h j hij hj
    simp only [carrefourlaw06_Few.l0] at h
    rw [if_pos (by omega), if_pos (by omega)] at h
    obtain ⟨t, ht, h⟩ := Option.bind_eq_some_iff.1 h
    by_cases c : t = true
    · rw [if_pos c, up1 (by omega)] at h
      subst c
      by_cases e : i = j
      · subst e; exact node_heads ht
      · exact ih (i + 1) hn h j (by omega) hj
    · rw [if_neg c] at h; simp at h
theorem few_heads {k : Nat} (h : carrefourlaw06_Few.f k mn_ mx_ st p0 p1 ns ss wo wi = some true) : ns.length ≤ 15 ∧ ∀ j : Nat, j < ns.length → (rd_T42 ns (j : Int)).f1.length ≤ 50 := by
  unfold carrefourlaw06_Few.f at h
  by_cases c : (ns.length : Int) > 15
  · rw [if_pos c] at h
    cases k with
    | zero => simp [carrefourlaw06_Few.j0] at h
    | succ k => simp [carrefourlaw06_Few.j0] at h
  · rw [if_neg c] at h
    cases k with
    | zero => simp [carrefourlaw06_Few.j0] at h
    | succ k =>
      simp only [carrefourlaw06_Few.j0] at h
      by_cases c2 : decide ((ss.length : Int) > 15) = true
      · rw [if_pos c2] at h; simp at h
      · rw [if_neg c2] at h
        exact ⟨by omega, fun j hj => few_heads0 k 0 (by omega) h j (by omega) hj⟩
/-- What is known of the rows that both tell. -/
def RowsOK (n : Nat) (r : List (List S23) × Int) : Prop := r.1.length ≤ n ∧ ∀ x ∈ r.1, x.length ≤ 50
theorem set_end {α : Type} (pre : List α) (d : Nat) (z v : α) : (pre ++ List.replicate (d + 1) z).set pre.length v = (pre ++ [v]) ++ List.replicate d z := by
  rw [List.set_append_right _ _ (Nat.le_refl _), Nat.sub_self, List.replicate_succ, List.set_cons_zero, List.append_assoc]; rfl
/-- One node's row: both go on alike. -/
theorem table_row (hp0 : I64 p0) (hp1 : I64 p1) {j : Nat} {x4 : List (List S23)} (hj : j < ns.length) (hj2 : j < 15) (hx : x4.length = j) (hh : (rd_T42 ns (j : Int)).f1.length ≤ 50)
    (hF : ∀ a ∈ (rd_T42 ns (j : Int)).f1, F48 a)
    (K : ∀ row : List S23, row.length ≤ 50 → ∃ r, Ev (fun k => demand_Table.l0 k (x4 ++ [row]) ns (ns.length : Int) ((j + 1 : Nat) : Int) mn_ mx_ st p0 p1 ns ss wo wi) r ∧ Ev (fun k => carrefourref09_Table.l0 k (x4 ++ [row]) ((j + 1 : Nat) : Int) mn_ mx_ st p0 p1 ns ss wo wi) r ∧ RowsOK 15 r) (d : Nat) :
    ∀ (i : Nat) (pre : List S23), pre.length = i → i + d = (rd_T42 ns (j : Int)).f1.length →
      ∃ r, Ev (fun k => demand_Table.l1 k x4 (pre ++ List.replicate d z23) ns (ns.length : Int) (j : Int) ((rd_T42 ns (j : Int)).f1) ((rd_T42 ns (j : Int)).f1.length : Int) (i : Int) mn_ mx_ st p0 p1 ns ss wo wi) r ∧ Ev (fun k => carrefourref09_Table.l1 k x4 (j : Int) pre (i : Int) mn_ mx_ st p0 p1 ns ss wo wi) r ∧ RowsOK 15 r := by
  induction d with
  | zero =>
    intro i pre hp hi
    obtain ⟨r, a, b, c⟩ := K pre (by omega)
    refine ⟨r, Ev.step (fun k => ?_) a, Ev.step (fun k => ?_) b, c⟩
    · simp only [demand_Table.l1]
      rw [if_neg (by omega), if_pos (by omega), up1 (by omega)]
      simp only [List.replicate_zero, List.append_nil]
    · simp only [carrefourref09_Table.l1]
      rw [if_pos (by omega), if_pos (by omega), if_neg (by omega), if_pos (by omega), up1 (by omega)]
  | succ d ih =>
    intro i pre hp hi
    have hlt : (i : Int) < (((rd_T42 ns (j : Int)).f1).length : Int) := by omega
    have hm : rd_T48 ((rd_T42 ns (j : Int)).f1) (i : Int) ∈ (rd_T42 ns (j : Int)).f1 := by
      unfold rd_T48
      exact getD_mem (by omega) _
    have f := hF _ hm
    generalize hg : rd_T48 ((rd_T42 ns (j : Int)).f1) (i : Int) = y at f
    obtain ⟨_, f1, f2, ⟨f3, f4⟩, _⟩ := f
    have e1 := Ratio_ev y.f0 (a5 := y.f4) (a6 := y.f5) (a7 := y.f6) (a8 := y.f7) (a9 := y.f8) (a10 := y.f9) (i64_of_wf f1) (i64_of_wf f2) (i64_of_wf f3) (i64_of_wf f4) hp0 hp1
    have e2 := rRatio_ev y.f0 (a5 := y.f4) (a6 := y.f5) (a7 := y.f6) (a8 := y.f7) (a9 := y.f8) (a10 := y.f9) (i64_of_wf f1) (i64_of_wf f2) (i64_of_wf f3) (i64_of_wf f4) hp0 hp1
    generalize ratS y.f3.f0 y.f3.f1 y.f1 y.f2 p0 p1 = q at e1 e2
    by_cases c : q.2.2 = 0
    · obtain ⟨r, a, b, cc⟩ := ih (i + 1) (pre ++ [⟨q.1, q.2.1⟩]) (by simp [hp]) (by omega)
      refine ⟨r, Ev.step (fun k => ?_) (Ev.bind e1 (f := fun k bt => if bt.2.2 = 0 then demand_Table.l1 k x4 ((pre ++ List.replicate (d + 1) z23).set pre.length ⟨bt.1, bt.2.1⟩) ns (ns.length : Int) (j : Int) ((rd_T42 ns (j : Int)).f1) ((rd_T42 ns (j : Int)).f1.length : Int) ((i + 1 : Nat) : Int) mn_ mx_ st p0 p1 ns ss wo wi else some ([], bt.2.2)) (Ev.itep c ?_)), Ev.step (fun k => ?_) (Ev.bind e2 (f := fun k bt => if bt.2.2 = 0 then carrefourref09_Table.l1 k x4 (j : Int) (pre ++ [⟨bt.1, bt.2.1⟩]) ((i + 1 : Nat) : Int) mn_ mx_ st p0 p1 ns ss wo wi else some ([], bt.2.2)) (Ev.itep c b)), cc⟩
      · simp only [demand_Table.l1]
        rw [if_pos (by omega), if_pos (by omega), if_pos (by omega), hg]
        congr 1; funext bt
        split
        · rw [if_pos (by simp only [List.length_append, List.length_replicate]; omega), up1 (by omega), Int.toNat_natCast, hp]
        · rfl
      · rw [set_end]; exact a
      · simp only [carrefourref09_Table.l1]
        rw [if_pos (by omega), if_pos (by omega), if_pos (by omega), if_pos (by omega), hg]
        congr 1; funext bt
        split
        · rw [if_pos (by omega), up1 (by omega)]
        · rfl
    · refine ⟨([], q.2.2), Ev.step (fun k => ?_) (Ev.bind e1 (f := fun k bt => if bt.2.2 = 0 then demand_Table.l1 k x4 ((pre ++ List.replicate (d + 1) z23).set pre.length ⟨bt.1, bt.2.1⟩) ns (ns.length : Int) (j : Int) ((rd_T42 ns (j : Int)).f1) ((rd_T42 ns (j : Int)).f1.length : Int) ((i + 1 : Nat) : Int) mn_ mx_ st p0 p1 ns ss wo wi else some ([], bt.2.2)) (Ev.iten c (Ev.now _))), Ev.step (fun k => ?_) (Ev.bind e2 (f := fun k bt => if bt.2.2 = 0 then carrefourref09_Table.l1 k x4 (j : Int) (pre ++ [⟨bt.1, bt.2.1⟩]) ((i + 1 : Nat) : Int) mn_ mx_ st p0 p1 ns ss wo wi else some ([], bt.2.2)) (Ev.iten c (Ev.now _))), ⟨Nat.zero_le _, fun x hx => by cases hx⟩⟩
      · simp only [demand_Table.l1]
        rw [if_pos (by omega), if_pos (by omega), if_pos (by omega), hg]
        congr 1; funext bt
        split
        · rw [if_pos (by simp only [List.length_append, List.length_replicate]; omega), up1 (by omega), Int.toNat_natCast, hp]
        · rfl
      · simp only [carrefourref09_Table.l1]
        rw [if_pos (by omega), if_pos (by omega), if_pos (by omega), if_pos (by omega), hg]
        congr 1; funext bt
        split
        · rw [if_pos (by omega), up1 (by omega)]
        · rfl
theorem table_both (hp0 : I64 p0) (hp1 : I64 p1) (hn : ns.length ≤ 15) (hh : ∀ j : Nat, j < ns.length → (rd_T42 ns (j : Int)).f1.length ≤ 50) (hF : ∀ x ∈ ns, ∀ a ∈ x.f1, F48 a) (d : Nat) :
    ∀ (j : Nat) (x4 : List (List S23)), x4.length = j → (∀ x ∈ x4, x.length ≤ 50) → j + d = ns.length →
      ∃ r, Ev (fun k => demand_Table.l0 k x4 ns (ns.length : Int) (j : Int) mn_ mx_ st p0 p1 ns ss wo wi) r ∧ Ev (fun k => carrefourref09_Table.l0 k x4 (j : Int) mn_ mx_ st p0 p1 ns ss wo wi) r ∧ RowsOK 15 r := by
  induction d with
  | zero =>
    intro j x4 hx hr hj
    refine ⟨(x4, 0), Ev.step (f := fun _ => some (x4, 0)) (fun k => ?_) (Ev.now _), Ev.step (f := fun _ => some (x4, 0)) (fun k => ?_) (Ev.now _), ⟨by show x4.length ≤ 15; omega, hr⟩⟩
    · simp only [demand_Table.l0]
      rw [if_neg (by omega)]
    · simp only [carrefourref09_Table.l0]
      rw [if_neg (by omega)]
  | succ d ih =>
    intro j x4 hx hr hj
    have hm : rd_T42 ns (j : Int) ∈ ns := by
      unfold rd_T42
      exact getD_mem (by omega) _
    have h50 := hh j (by omega)
    obtain ⟨r, a, b, c⟩ := table_row (mn_ := mn_) (mx_ := mx_) (st := st) (ss := ss) (wo := wo) (wi := wi) hp0 hp1 (x4 := x4) (by omega) (by omega) hx h50 (hF _ hm) (fun row hrow => ih (j + 1) (x4 ++ [row]) (by simp [hx]) (fun x hx' => by
      rcases List.mem_append.1 hx' with h | h
      · exact hr x h
      · rw [List.mem_singleton] at h; subst h; exact hrow) (by omega)) _ 0 [] rfl (Nat.zero_add _)
    refine ⟨r, Ev.step (fun k => ?_) a, Ev.step (fun k => ?_) b, c⟩
    · simp only [demand_Table.l0]
      rw [if_pos (by omega), if_pos (by omega), if_pos (by omega), if_pos (by omega), if_pos (by omega)]
      simp only [Int.toNat_natCast, List.nil_append]
      rfl
    · simp only [carrefourref09_Table.l0]
      rw [if_pos (by omega)]
      rfl
end
section
variable {a : List (List S23)}
theorem same_row (h15 : a.length ≤ 15) (h50 : ∀ x ∈ a, x.length ≤ 50) {i : Nat} (hi : i < a.length) (K : Ev (fun k => carrefourlaw09_DemandTable.l0 k a a ((i + 1 : Nat) : Int)) true) (d : Nat) :
    ∀ j : Nat, j + d = (rd_L19 a (i : Int)).length → Ev (fun k => carrefourlaw09_DemandTable.l1 k a a (i : Int) (j : Int)) true := by
  have hm : rd_L19 a (i : Int) ∈ a := by
    unfold rd_L19
    exact getD_mem (by omega) _
  have h5 := h50 _ hm
  induction d with
  | zero =>
    intro j hj
    refine Ev.step (fun k => ?_) K
    simp only [carrefourlaw09_DemandTable.l1]
    rw [if_pos (by omega), if_pos (by omega), if_neg (by omega), up1 (by omega)]
  | succ d ih =>
    intro j hj
    refine Ev.step (fun k => ?_) (ih (j + 1) (by omega))
    simp only [carrefourlaw09_DemandTable.l1]
    rw [if_pos (by omega), if_pos (by omega), if_pos (by omega), if_pos (by omega), if_pos (by omega), if_pos (by omega), if_neg (by simp), up1 (by omega)]
theorem same_rows (h15 : a.length ≤ 15) (h50 : ∀ x ∈ a, x.length ≤ 50) (d : Nat) : ∀ i : Nat, i + d = a.length → Ev (fun k => carrefourlaw09_DemandTable.l0 k a a (i : Int)) true := by
  induction d with
  | zero =>
    intro i hi
    refine Ev.step (f := fun k => (carrefourlaw09_awake.f k).bind fun t => some t) (fun k => ?_) (Ev.bind awake09_ev (Ev.now _))
    simp only [carrefourlaw09_DemandTable.l0]
    rw [if_neg (by omega)]
  | succ d ih =>
    intro i hi
    refine Ev.step (fun k => ?_) (same_row h15 h50 (i := i) (by omega) (ih (i + 1) (by omega)) _ 0 (Nat.zero_add _))
    simp only [carrefourlaw09_DemandTable.l0]
    rw [if_pos (by omega), if_pos (by omega), if_pos (by omega), if_pos trivial]
    rfl
end
theorem DemandTable (mn_ mx_ st p0 p1 : Int) (ns : List S42) (ss : List S45) (wo wi : Int) {P0 P1 P2 P6 P7 P8 : Prop} (h0 : P0) (h1 : P1) (h2 : P2) (h3 : (Lit.int .i64 p0).wf = true) (h4 : (Lit.int .i64 p1).wf = true) (h5 : ns.length ≤ maxLen ∧ ∀ x ∈ ns, F42 x) (h6 : P6) (h7 : P7) (h8 : P8) :
    ∃ k, carrefourlaw09_DemandTable.f k mn_ mx_ st p0 p1 ns ss wo wi = some true := by
  have hp0 := i64_of_wf h3
  have hp1 := i64_of_wf h4
  suffices h : Ev (fun k => carrefourlaw09_DemandTable.f k mn_ mx_ st p0 p1 ns ss wo wi) true by obtain ⟨K, h⟩ := h; exact ⟨K, h K (Nat.le_refl _)⟩
  unfold carrefourlaw09_DemandTable.f
  obtain ⟨t, ht⟩ := few_some mn_ mx_ st p0 p1 ns ss wo wi
  refine Ev.bind ht ?_
  by_cases c : t = true
  · subst c
    obtain ⟨K, hK⟩ := ht
    obtain ⟨hn, hh⟩ := few_heads (hK K (Nat.le_refl _))
    obtain ⟨r, a, b, hr⟩ := table_both (mn_ := mn_) (mx_ := mx_) (st := st) (ss := ss) (wo := wo) (wi := wi) hp0 hp1 hn hh (fun x hx => (h5.2 x hx).2.1.2) ns.length 0 [] rfl (fun x hx => by cases hx) (by omega)
    refine Ev.itep rfl (Ev.bind (g := fun k => demand_Table.f k mn_ mx_ st p0 p1 ns ss wo wi) a (Ev.bind (g := fun k => carrefourref09_Table.f k mn_ mx_ st p0 p1 ns ss wo wi) b (Ev.itep rfl (Ev.step (fun k => ?_) (same_rows hr.1 hr.2 r.1.length 0 (by omega))))))
    simp only [carrefourlaw09_DemandTable.j0]
    rw [if_neg (by simp)]
    rfl
  · exact Ev.iten c (Ev.now _)
end Go.Proofs.YtfhokgkpcphmlaaGreatDoor.Pure
