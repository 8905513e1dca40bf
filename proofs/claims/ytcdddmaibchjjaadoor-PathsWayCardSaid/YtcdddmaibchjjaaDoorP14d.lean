/- The reference of law 14: right, the rounds, Longest. Plain lists.
   Conditions: as each theorem's head says. -/
import Derived.Test.YtcdddmaibchjjaaDoorXD
import Derived.Test.YtcdddmaibchjjaaDoorP14c
namespace Go.Proofs.YtcdddmaibchjjaaDoor.Pure
set_option linter.unusedVariables false
open Go.RowKit Go.Proofs.YtcdddmaibchjjaaDoor.X Go.Proofs.YtcdddmaibchjjaaDoorW.PrintWords Go.Proofs.YtcdddmaibchjjaaDoorW.PrintLast Go.Proofs.YtcdddmaibchjjaaDoorW.PrintMore
theorem w64 {x : Int} (h0 : -9223372036854775808 ≤ x) (h1 : x ≤ 9223372036854775807) : wrap64 x = x := by
  unfold wrap64
  omega
theorem drop_at {l : List S34} {i : Nat} (h : i < l.length) : rd_T34 l (i : Int) = l[i] ∧ l.drop i = l[i] :: l.drop (i + 1) := by
  refine ⟨?_, List.drop_eq_getElem_cons h⟩
  unfold rd_T34
  rw [Int.toNat_natCast, List.getD_eq_getElem?_getD, List.getElem?_eq_getElem h]
  rfl
theorem right_l0 {n : Int} {l : List S34} (hl : l.length ≤ 100000) : ∀ (d i : Nat), i + d = l.length → Ev (fun k => carrefourref14_Right.l0 k n l (i : Int)) (!((l.drop i).any (eB n)))
  | 0, i, h => by
    refine Ev.step (fun k => by rw [carrefourref14_Right.l0]) (Ev.iten (by omega) (Ev.eq ?_))
    rw [List.drop_of_length_le (by omega)]
    rfl
  | d + 1, i, h => by
    obtain ⟨e1, e2⟩ := drop_at (l := l) (i := i) (by omega)
    have ih := right_l0 (n := n) hl d (i + 1) (by omega)
    rw [e2, List.any_cons]
    refine Ev.step (fun k => by rw [carrefourref14_Right.l0, e1, w64 (x := (i : Int) + 1) (by omega) (by omega)]) (Ev.itep (by omega) (Ev.itep (by omega) ?_))
    generalize l[i] = e
    have bad : ∀ (b : Bool), eB n e = true → some false = some (!(eB n e || b)) := fun b hb => by rw [hb]; rfl
    by_cases c1 : e.f0 < 0
    · exact Ev.itep c1 (Ev.eq (bad _ (by unfold eB eBad inP; simp; omega)))
    refine Ev.iten c1 ?_
    by_cases c2 : e.f0 ≥ n
    · exact Ev.itep c2 (Ev.eq (bad _ (by unfold eB eBad inP; simp; omega)))
    refine Ev.iten c2 ?_
    by_cases c3 : e.f1 < 0
    · exact Ev.itep c3 (Ev.eq (bad _ (by unfold eB eBad inP; simp; omega)))
    refine Ev.iten c3 ?_
    by_cases c4 : e.f1 ≥ n
    · exact Ev.itep c4 (Ev.eq (bad _ (by unfold eB eBad inP; simp; omega)))
    refine Ev.iten c4 ?_
    by_cases c5 : e.f2 < 0
    · exact Ev.itep c5 (Ev.eq (bad _ (by unfold eB eBad inP; simp; omega)))
    refine Ev.iten c5 ?_
    by_cases c6 : e.f2 > 6000
    · exact Ev.itep c6 (Ev.eq (bad _ (by unfold eB eBad inP; simp; omega)))
    refine Ev.iten c6 ?_
    have g : eB n e = false := by
      unfold eB eBad inP
      simp
      omega
    rw [g, Bool.false_or]
    exact ih
theorem right_ev {n : Int} {l : List S34} (hl : l.length ≤ 60) : Ev (fun k => carrefourref14_Right.f k n l) (rightF n l) := by
  have j : ∀ (b : Bool) (r : Bool), (b = true → r = false) → (b = false → r = !(l.any (eB n))) → Ev (fun k => carrefourref14_Right.j0 k n l b) r := by
    intro b r h1 h2
    refine Ev.step (fun k => by rw [carrefourref14_Right.j0]) ?_
    cases b with
    | true => rw [h1 rfl]; exact Ev.itep rfl (Ev.eq rfl)
    | false => rw [h2 rfl]; exact Ev.iten (by decide) (right_l0 (by omega) l.length 0 (by omega))
  unfold rightF
  by_cases c1 : n < 1
  · refine Ev.itep c1 (j _ _ (fun _ => ?_) (fun h => by cases h))
    simp
    omega
  refine Ev.iten c1 ?_
  by_cases c2 : n > 64
  · refine Ev.itep c2 (j _ _ (fun _ => ?_) (fun h => by cases h))
    simp
    omega
  refine Ev.iten c2 (j _ _ (fun h => ?_) (fun _ => ?_))
  · have := of_decide_eq_true h
    omega
  · rw [decide_eq_true (by omega : 1 ≤ n), decide_eq_true (by omega : n ≤ 64), decide_eq_true (by omega : l.length ≤ 1000)]
    rfl
/-- A round over the edges, some of them done. -/
structure Rd1 (n : Nat) (l : List S34) (far : List Int) (done : List S34) (new : List Int) (g : Bool) : Prop where
  len : new.length = n
  up : ∀ v : Int, 0 ≤ v → v < n → rd far v ≤ rd new v
  by_ : ∀ v : Int, 0 ≤ v → v < n → rd new v = rd far v ∨ ∃ e ∈ l, e.f1 = v ∧ 0 ≤ rd far e.f0 ∧ rd new v = rd far e.f0 + e.f2 ∧ rd far v < rd new v
  fit : ∀ e ∈ done, 0 ≤ rd far e.f0 → rd far e.f0 + e.f2 ≤ rd new e.f1
  gt : g = true → ∃ v : Int, 0 ≤ v ∧ v < n ∧ rd far v < rd new v
  gf : g = false → new = far
theorem round_l0 {n : Nat} {l : List S34} {far : List Int} (hl : l.length ≤ 100000) (hg : Gr n l) (hf : far.length = n) (hb : ∀ v : Int, 0 ≤ v → v < n → rd far v ≤ 1000000) : ∀ (d i : Nat) (new : List Int) (g : Bool), i + d = l.length → Rd1 n l far (l.take i) new g →
    ∃ st : List Int × Bool, Ev (fun k => carrefourref14_round.l0 k far l new g (i : Int)) st ∧ Rd1 n l far l st.1 st.2
  | 0, i, new, g, h, hr => by
    refine ⟨(new, g), Ev.step (fun k => by rw [carrefourref14_round.l0]) (Ev.iten (by omega) (Ev.eq rfl)), ?_⟩
    rw [List.take_of_length_le (by omega)] at hr
    exact hr
  | d + 1, i, new, g, h, hr => by
    obtain ⟨e1, e2⟩ := drop_at (l := l) (i := i) (by omega)
    have hm : l[i] ∈ l := List.getElem_mem _
    have ht : l.take (i + 1) = l.take i ++ [l[i]] := by rw [List.take_succ_eq_append_getElem]
    have key : ∀ (new' : List Int) (g' : Bool), Rd1 n l far (l.take i ++ [l[i]]) new' g' → ∃ st : List Int × Bool, Ev (fun k => carrefourref14_round.l0 k far l new' g' ((i + 1 : Nat) : Int)) st ∧ Rd1 n l far l st.1 st.2 := fun new' g' hr' =>
      round_l0 hl hg hf hb d (i + 1) new' g' (by omega) (by rw [ht]; exact hr')
    have unf : ∀ k, carrefourref14_round.l0 (k + 1) far l new g (i : Int) = (if (i : Int) < (l.length : Int) then (if 0 ≤ (i : Int) then (if 0 ≤ (l[i].f0) then (if (l[i].f0) < (far.length : Int) then (if (rd far (l[i].f0)) ≥ 0 then (if 0 ≤ (l[i].f1) then (if (l[i].f1) < (new.length : Int) then (if (wrap64 ((rd far (l[i].f0)) + (l[i].f2))) > (rd new (l[i].f1)) then (carrefourref14_round.l0 k far l (new.set ((l[i].f1) : Int).toNat (wrap64 ((rd far (l[i].f0)) + (l[i].f2)))) true ((i + 1 : Nat) : Int)) else (carrefourref14_round.l0 k far l new g ((i + 1 : Nat) : Int))) else (none)) else (none)) else (carrefourref14_round.l0 k far l new g ((i + 1 : Nat) : Int))) else (none)) else (none)) else (none)) else (some (new, g))) := fun k => by
      rw [carrefourref14_round.l0, e1, w64 (x := (i : Int) + 1) (by omega) (by omega)]
      rfl
    generalize l[i] = e at *
    obtain ⟨⟨a0, a1⟩, b0, b1, z0, z1⟩ := hg e hm
    have hfe := hb e.f0 a0 a1
    by_cases c1 : rd far e.f0 ≥ 0
    · have hw : wrap64 (rd far e.f0 + e.f2) = rd far e.f0 + e.f2 := w64 (by omega) (by omega)
      by_cases c2 : wrap64 (rd far e.f0 + e.f2) > rd new e.f1
      · obtain ⟨st, hs, hst⟩ := key (new.set e.f1.toNat (rd far e.f0 + e.f2)) true {
          len := by rw [List.length_set]; exact hr.len
          up := fun v v0 v1 => by
            rw [rd_set b0 (by rw [hr.len]; exact b1) v0]
            by_cases c : v = e.f1
            · rw [if_pos c, c]
              have := hr.up e.f1 b0 b1
              omega
            · rw [if_neg c]; exact hr.up v v0 v1
          by_ := fun v v0 v1 => by
            rw [rd_set b0 (by rw [hr.len]; exact b1) v0]
            by_cases c : v = e.f1
            · rw [if_pos c]
              have := hr.up e.f1 b0 b1
              exact .inr ⟨e, hm, c.symm, c1, rfl, by rw [c]; omega⟩
            · rw [if_neg c]; exact hr.by_ v v0 v1
          fit := fun x hx h0 => by
            have hxl : x ∈ l := by
              rcases List.mem_append.1 hx with hx | hx
              · exact List.mem_of_mem_take hx
              · rw [List.mem_singleton.1 hx]; exact hm
            rw [rd_set b0 (by rw [hr.len]; exact b1) (hg x hxl).2.1]
            rcases List.mem_append.1 hx with hx | hx
            · have := hr.fit x hx h0
              by_cases c : x.f1 = e.f1
              · rw [if_pos c]
                rw [c] at this
                omega
              · rw [if_neg c]; exact this
            · rw [List.mem_singleton.1 hx, if_pos rfl]
              exact Int.le_refl _
          gt := fun _ => ⟨e.f1, b0, b1, by
            rw [rd_set b0 (by rw [hr.len]; exact b1) b0, if_pos rfl]
            have := hr.up e.f1 b0 b1
            omega⟩
          gf := fun h => by cases h }
        refine ⟨st, Ev.step unf (Ev.itep (by omega) (Ev.itep (by omega) (Ev.itep a0 (Ev.itep (by rw [hf]; exact a1) (Ev.itep c1 (Ev.itep b0 (Ev.itep (by rw [hr.len]; exact b1) (Ev.itep c2 ?_)))))))), hst⟩
        rw [hw]
        exact hs
      · have hr2 : Rd1 n l far (l.take i ++ [e]) new g := by
          refine { hr with fit := fun x hx h0 => ?_ }
          rcases List.mem_append.1 hx with hx | hx
          · exact hr.fit x hx h0
          · rw [List.mem_singleton.1 hx]
            omega
        obtain ⟨st, hs, hst⟩ := key new g hr2
        exact ⟨st, Ev.step unf (Ev.itep (by omega) (Ev.itep (by omega) (Ev.itep a0 (Ev.itep (by rw [hf]; exact a1) (Ev.itep c1 (Ev.itep b0 (Ev.itep (by rw [hr.len]; exact b1) (Ev.iten c2 hs)))))))), hst⟩
    · have hr2 : Rd1 n l far (l.take i ++ [e]) new g := by
        refine { hr with fit := fun x hx h0 => ?_ }
        rcases List.mem_append.1 hx with hx | hx
        · exact hr.fit x hx h0
        · rw [List.mem_singleton.1 hx] at h0
          exact absurd h0 c1
      obtain ⟨st, hs, hst⟩ := key new g hr2
      exact ⟨st, Ev.step unf (Ev.itep (by omega) (Ev.itep (by omega) (Ev.itep a0 (Ev.itep (by rw [hf]; exact a1) (Ev.iten c1 hs))))), hst⟩
end Go.Proofs.YtcdddmaibchjjaaDoor.Pure
