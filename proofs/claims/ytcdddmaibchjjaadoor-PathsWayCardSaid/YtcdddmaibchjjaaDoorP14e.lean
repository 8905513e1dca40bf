/- The reference of law 14: the rounds up to the end, Longest. Plain lists.
   Conditions: as each theorem's head says. -/
import Derived.Test.YtcdddmaibchjjaaDoorP14d
namespace Go.Proofs.YtcdddmaibchjjaaDoor.Pure
set_option linter.unusedVariables false
open Go.RowKit Go.Proofs.YtcdddmaibchjjaaDoor.X Go.Proofs.YtcdddmaibchjjaaDoorW.PrintWords Go.Proofs.YtcdddmaibchjjaaDoorW.PrintLast Go.Proofs.YtcdddmaibchjjaaDoorW.PrintMore
/-- The lengths behind i rounds: dp is what was known a round before. -/
structure Ri (n : Nat) (l : List S34) (i : Nat) (dp : Int → Int) (d : List Int) : Prop where
  len : d.length = n
  lo : ∀ v : Int, 0 ≤ v → v < n → -1 ≤ rd d v
  hi : ∀ v : Int, 0 ≤ v → v < n → rd d v ≤ 6000 * (i : Int)
  up : ∀ v : Int, 0 ≤ v → v < n → dp v ≤ rd d v
  met : ∀ v : Int, 0 ≤ v → v < n → rd d v = -1 ∨ ∃ P, WkE l P ∧ P.head? = some (v, rd d v)
  new : ∀ v : Int, 0 ≤ v → v < n → dp v < rd d v → ∃ P, WkE l P ∧ P.head? = some (v, rd d v) ∧ P.length = i + 1 ∧ Fr P ∧ ∀ q ∈ P, q.2 ≤ rd d q.1
  fit : ∀ e ∈ l, 0 ≤ dp e.f0 → dp e.f0 + e.f2 ≤ rd d e.f1
  zero : 0 ≤ rd d 0
  grown : ∃ v : Int, 0 ≤ v ∧ v < n ∧ dp v < rd d v
theorem Ri.start {n : Nat} {l : List S34} (hn : 1 ≤ n) : Ri n l 0 (fun _ => -1) (X.start n) where
  len := start_len n
  lo := fun v h0 h1 => by rw [rd_start h0 h1]; split <;> omega
  hi := fun v h0 h1 => by rw [rd_start h0 h1]; split <;> omega
  up := fun v h0 h1 => by rw [rd_start h0 h1]; split <;> omega
  met := fun v h0 h1 => by
    rw [rd_start h0 h1]
    by_cases c : v = 0
    · rw [if_pos c, c]; exact .inr ⟨[(0, 0)], rfl, rfl⟩
    · rw [if_neg c]; exact .inl rfl
  new := fun v h0 h1 h => by
    rw [rd_start h0 h1] at h ⊢
    by_cases c : v = 0
    · subst c
      refine ⟨[(0, 0)], rfl, rfl, rfl, ⟨fun q hq => (by cases hq), trivial⟩, fun q hq => ?_⟩
      rw [List.mem_singleton] at hq
      subst hq
      show (0 : Int) ≤ rd (X.start n) 0
      rw [rd_start (n := n) (by decide) (by omega)]
      decide
    · rw [if_neg c] at h
      omega
  fit := fun e _ h => by omega
  zero := by rw [rd_start (n := n) (by decide) (by omega)]; decide
  grown := ⟨0, by decide, by omega, by rw [rd_start (n := n) (by decide) (by omega)]; decide⟩
theorem Ri.next {n : Nat} {l : List S34} {i : Nat} {dp : Int → Int} {d new : List Int} (hn : 1 ≤ n) (hg : Gr n l) (h : Ri n l i dp d) (hr : Rd1 n l d l new true) : Ri n l (i + 1) (rd d) new where
  len := hr.len
  lo := fun v h0 h1 => Int.le_trans (h.lo v h0 h1) (hr.up v h0 h1)
  hi := fun v h0 h1 => by
    rcases hr.by_ v h0 h1 with e | ⟨e, he, _, _, e2, _⟩
    · rw [e]; have := h.hi v h0 h1; omega
    · obtain ⟨⟨a0, a1⟩, _, _, _, z1⟩ := hg e he
      have := h.hi _ a0 a1
      omega
  up := hr.up
  met := fun v h0 h1 => by
    rcases hr.by_ v h0 h1 with e | ⟨e, he, e1, e0, e2, _⟩
    · rw [e]; exact h.met v h0 h1
    · obtain ⟨⟨a0, a1⟩, _, _, _, z1⟩ := hg e he
      rcases h.met _ a0 a1 with c | ⟨P, hP, hh⟩
      · omega
      · cases P with
        | nil => exact hP.elim
        | cons p t =>
          have e3 : p = (e.f0, rd d e.f0) := by simpa using hh
          subst e3
          exact .inr ⟨(v, rd new v) :: (e.f0, rd d e.f0) :: t, ⟨⟨e, he, rfl, e1, e2⟩, hP⟩, rfl⟩
  new := fun v h0 h1 hlt => by
    rcases hr.by_ v h0 h1 with e | ⟨e, he, e1, e0, e2, _⟩
    · omega
    · obtain ⟨⟨a0, a1⟩, _, _, _, z1⟩ := hg e he
      have hgr : dp e.f0 < rd d e.f0 := by
        have a := h.up _ a0 a1
        by_cases c : dp e.f0 = rd d e.f0
        · have := h.fit e he (by omega)
          rw [c, e1] at this
          omega
        · omega
      obtain ⟨P, hP, hh, hlen, hf, hb⟩ := h.new _ a0 a1 hgr
      cases P with
      | nil => exact hP.elim
      | cons p t =>
        have e3 : p = (e.f0, rd d e.f0) := by simpa using hh
        subst e3
        refine ⟨(v, rd new v) :: (e.f0, rd d e.f0) :: t, ⟨⟨e, he, rfl, e1, e2⟩, hP⟩, rfl, by simp only [List.length_cons] at hlen ⊢; omega, ⟨fun q hq hq1 => ?_, hf⟩, fun q hq => ?_⟩
        · have h3 := hb q hq
          rw [show q.1 = v from hq1] at h3
          show q.2 < rd new v
          omega
        · rcases List.mem_cons.1 hq with rfl | hq
          · exact Int.le_refl _
          · have hq0 := Wk.points (n := (n : Int)) (by omega) (fun e he => ⟨(hg e he).2.1, (hg e he).2.2.1⟩) hP q hq
            exact Int.le_trans (hb q hq) (hr.up _ hq0.1 hq0.2)
  fit := fun e he h0 => hr.fit e he h0
  zero := Int.le_trans h.zero (hr.up 0 (by decide) (by omega))
  grown := hr.gt rfl
/-- What the reference says at its end, where there is no circle. -/
structure RFound (n : Nat) (l : List S34) (d : List Int) : Prop where
  len : d.length = n
  lo : ∀ v : Int, 0 ≤ v → v < n → -1 ≤ rd d v
  hi : ∀ v : Int, 0 ≤ v → v < n → rd d v ≤ 1000000
  met : ∀ v : Int, 0 ≤ v → v < n → rd d v = -1 ∨ ∃ P, WkE l P ∧ P.head? = some (v, rd d v)
  fits : FitsE l (rd d)
theorem Ri.tall {n : Nat} {l : List S34} {dp : Int → Int} {d : List Int} (hn : 1 ≤ n) (hg : Gr n l) (h : Ri n l (n + 1) dp d) : ∀ D, ¬ FitsE l D := by
  intro D hD
  obtain ⟨v, h0, h1, hv⟩ := h.grown
  obtain ⟨P, hP, _, hlen, hf, _⟩ := h.new v h0 h1 hv
  have := fr_short hn hg hD hP hf
  omega
theorem round_ev {n : Nat} {l : List S34} {d : List Int} (hn : n ≤ 64) (hl : l.length ≤ 100000) (hg : Gr n l) (hf : d.length = n) (hb : ∀ v : Int, 0 ≤ v → v < n → rd d v ≤ 1000000) : ∃ st : List Int × Bool, Ev (fun k => carrefourref14_round.f k d l) st ∧ Rd1 n l d l st.1 st.2 := by
  obtain ⟨st, hs, hst⟩ := round_l0 hl hg hf hb l.length 0 d false (by omega) {
    len := hf, up := fun v _ _ => Int.le_refl _, by_ := fun v _ _ => .inl rfl, fit := fun e he => by simp at he, gt := fun h => (by cases h), gf := fun _ => rfl }
  refine ⟨st, ?_, hst⟩
  show Ev (fun k => (some (([] : List Int) : List Int)).bind fun y107 => (if y107.length + d.length < 17592186044416 then (carrefourref14_round.l0 k d l (y107 ++ d) false 0) else (none))) st
  exact Ev.bind (Ev.eq rfl) (Ev.itep (by simp; omega) hs)
theorem ref_l1 {n : Nat} {l : List S34} (hn1 : 1 ≤ n) (hn : n ≤ 64) (hl : l.length ≤ 100000) (hg : Gr n l) : ∀ (c i : Nat) (dp : Int → Int) (d : List Int), i + c = n + 1 → Ri n l i dp d →
    (∃ d', Ev (fun k => carrefourref14_Longest.l1 k (n : Int) l d true (i : Int)) (d', 0) ∧ RFound n l d') ∨ (Ev (fun k => carrefourref14_Longest.l1 k (n : Int) l d true (i : Int)) ([], 140) ∧ ∀ D, ¬ FitsE l D)
  | 0, i, dp, d, hi, h => by
    obtain rfl : i = n + 1 := by omega
    exact .inr ⟨Ev.step (fun k => by rw [carrefourref14_Longest.l1]) (Ev.iten (by omega) (Ev.itep rfl (Ev.eq rfl))), h.tall hn1 hg⟩
  | c + 1, i, dp, d, hi, h => by
    obtain ⟨⟨new, g⟩, hs, hst⟩ := round_ev hn hl hg h.len (fun v h0 h1 => by have := h.hi v h0 h1; omega)
    have e1 : wrap64 ((i : Int) + 1) = ((i + 1 : Nat) : Int) := by rw [w64 (by omega) (by omega)]; rfl
    have stp : ∀ r, Ev (fun k => carrefourref14_Longest.l1 k (n : Int) l new g ((i + 1 : Nat) : Int)) r → Ev (fun k => carrefourref14_Longest.l1 k (n : Int) l d true (i : Int)) r := fun r hr =>
      Ev.step (fun k => by rw [carrefourref14_Longest.l1]) (Ev.itep (by omega) (Ev.itep rfl (Ev.bind hs (by simp only [e1]; exact hr))))
    cases g with
    | true =>
      rcases ref_l1 hn1 hn hl hg c (i + 1) (rd d) new (by omega) (h.next hn1 hg hst) with ⟨d', h1, h2⟩ | ⟨h1, h2⟩
      · exact .inl ⟨d', stp _ h1, h2⟩
      · exact .inr ⟨stp _ h1, h2⟩
    | false =>
      have e0 : new = d := hst.gf rfl
      subst e0
      refine .inl ⟨new, stp _ (Ev.step (fun k => by rw [carrefourref14_Longest.l1]) ?_), { len := h.len, lo := h.lo, hi := fun v h0 h1 => by have := h.hi v h0 h1; omega, met := h.met, fits := ⟨h.zero, fun e he h0 => hst.fit e he h0⟩ }⟩
      by_cases c : ((i + 1 : Nat) : Int) ≤ (n : Int)
      · exact Ev.itep c (Ev.iten (by decide) (Ev.eq rfl))
      · exact Ev.iten c (Ev.iten (by decide) (Ev.eq rfl))
def fill (n j : Nat) : List Int := (List.range n).map fun i => if i = 0 then 0 else if i < j then -1 else 0
theorem fill_len (n j : Nat) : (fill n j).length = n := by unfold fill; simp
theorem map_range_get {n i : Nat} (f : Nat → Int) (h : i < ((List.range n).map f).length) : ((List.range n).map f)[i] = f i := by
  rw [List.getElem_map, List.getElem_range]
theorem set_rep_get {n i : Nat} (h : i < ((List.replicate n (-1 : Int)).set 0 0).length) : ((List.replicate n (-1 : Int)).set 0 0)[i] = if 0 = i then 0 else -1 := by
  rw [List.getElem_set, List.getElem_replicate]
theorem fill_get {n j i : Nat} (h : i < (fill n j).length) : (fill n j)[i] = if i = 0 then 0 else if i < j then -1 else 0 := map_range_get _ h
theorem fill_set {n j : Nat} (h1 : 1 ≤ j) : (fill n j).set j (-1) = fill n (j + 1) := by
  apply List.ext_getElem
  · simp [fill]
  · intro i h2 h3
    rw [List.getElem_set, fill_get, fill_get]
    by_cases c : j = i
    · rw [if_pos c, if_neg (by omega), if_pos (by omega)]
    · rw [if_neg c]
      by_cases c2 : i = 0
      · rw [if_pos c2, if_pos c2]
      · rw [if_neg c2, if_neg c2]
        by_cases c3 : i < j
        · rw [if_pos c3, if_pos (by omega)]
        · rw [if_neg c3, if_neg (by omega)]
theorem fill_one (n : Nat) : fill n 1 = List.replicate n 0 := by
  apply List.ext_getElem
  · simp [fill]
  · intro i h2 h3
    rw [fill_get, List.getElem_replicate]
    split
    · rfl
    · rw [if_neg (by omega)]
theorem fill_all (n : Nat) : fill n n = X.start n := by
  apply List.ext_getElem
  · rw [start_len, fill_len]
  · intro i h2 h3
    have e : (X.start n)[i] = if 0 = i then 0 else -1 := set_rep_get h3
    rw [fill_get, e]
    rw [fill_len] at h2
    by_cases c : i = 0
    · rw [if_pos c, if_pos c.symm]
    · rw [if_neg c, if_pos h2, if_neg (fun h => c h.symm)]
theorem ref_l0 {n : Nat} {l : List S34} (hn : n ≤ 64) {r : List Int × Int} (h : Ev (fun k => carrefourref14_Longest.l1 k (n : Int) l (X.start n) true 0) r) : ∀ (c j : Nat), j + c = n → 1 ≤ j → Ev (fun k => carrefourref14_Longest.l0 k (n : Int) l (fill n j) (j : Int)) r
  | 0, j, hj, h1 => by
    obtain rfl : j = n := by omega
    refine Ev.step (fun k => by rw [carrefourref14_Longest.l0]) (Ev.iten (by omega) ?_)
    rw [fill_all]
    exact h
  | c + 1, j, hj, h1 => by
    have ih := ref_l0 hn h c (j + 1) (by omega) (by omega)
    have e1 : wrap64 ((j : Int) + 1) = ((j + 1 : Nat) : Int) := by rw [w64 (by omega) (by omega)]; rfl
    refine Ev.step (fun k => by rw [carrefourref14_Longest.l0]) (Ev.itep (by omega) (Ev.itep (by omega) (Ev.itep (by rw [fill_len]; omega) ?_)))
    simp only [e1, Int.toNat_natCast]
    rw [fill_set h1]
    exact ih
theorem ref_ev {n : Int} {l : List S34} (hl : l.length ≤ 60) (h : rightF n l = true) : (∃ d, Ev (fun k => carrefourref14_Longest.f k n l) (d, 0) ∧ RFound n.toNat l d) ∨ (Ev (fun k => carrefourref14_Longest.f k n l) ([], 140) ∧ ∀ D, ¬ FitsE l D) := by
  obtain ⟨h1, h2, h3, hg⟩ := right_gr h
  obtain ⟨m, rfl⟩ := Int.eq_ofNat_of_zero_le (show 0 ≤ n by omega)
  rw [Int.toNat_natCast] at h1 h2 hg ⊢
  have hr := right_ev (n := (m : Int)) hl
  rw [h] at hr
  have key : ∀ r, Ev (fun k => carrefourref14_Longest.l1 k (m : Int) l (X.start m) true 0) r → Ev (fun k => carrefourref14_Longest.f k (m : Int) l) r := fun r hh => by
    have := ref_l0 h2 hh (m - 1) 1 (by omega) (by omega)
    rw [fill_one] at this
    exact Ev.bind hr (Ev.itep rfl (Ev.itep (by omega) (Ev.itep (by rw [Int.toNat_natCast]; omega) (by simp only [Int.toNat_natCast]; exact this))))
  rcases ref_l1 h1 h2 (by omega) hg (m + 1) 0 _ _ (by omega) (Ri.start h1) with ⟨d, a, b⟩ | ⟨a, b⟩
  · exact .inl ⟨d, key _ a, b⟩
  · exact .inr ⟨key _ a, b⟩
theorem ref_bad {n : Int} {l : List S34} (hl : l.length ≤ 60) (h : rightF n l = false) : Ev (fun k => carrefourref14_Longest.f k n l) ([], 1) := by
  have hr := right_ev (n := n) hl
  rw [h] at hr
  exact Ev.bind hr (Ev.iten (by decide) (Ev.eq rfl))
theorem Found.met {n : Nat} {l : List S34} {fe : List Int × List Int} (h : Found n l fe) : ∀ v : Int, 0 ≤ v → v < n → rd fe.1 v = -1 ∨ ∃ P, WkE l P ∧ P.head? = some (v, rd fe.1 v) := fun v h0 h1 => by
  rcases h.2.2 v h0 h1 with e | ⟨P, hP, hh, _⟩
  · exact .inl e
  · exact .inr ⟨P, hP, hh⟩
theorem rd_get {l : List Int} {i : Nat} (h : i < l.length) : rd l (i : Int) = l[i] := by
  unfold rd
  rw [Int.toNat_natCast, List.getD_eq_getElem?_getD, List.getElem?_eq_getElem h]
  rfl
theorem found_same {n : Nat} {l : List S34} {fe : List Int × List Int} {d : List Int} (hg : Gr n l) (h : Found n l fe) (h2 : RFound n l d) : fe.1 = d := by
  have hl0 : ∀ e ∈ l, 0 ≤ e.f2 := fun e he => (hg e he).2.2.2.1
  apply List.ext_getElem
  · rw [h.2.1.1, h2.len]
  · intro i h3 h4
    have i1 : (i : Int) < n := by rw [h2.len] at h4; omega
    rw [← rd_get h3, ← rd_get h4]
    have a : rd fe.1 (i : Int) ≤ rd d (i : Int) := by
      rcases h.met (i : Int) (by omega) i1 with c | ⟨P, hP, hh⟩
      · rw [c]; exact h2.lo _ (by omega) i1
      · exact (Wk.le hl0 h2.fits hP (_, _) (List.mem_of_head? hh)).2
    have b : rd d (i : Int) ≤ rd fe.1 (i : Int) := by
      rcases h2.met (i : Int) (by omega) i1 with c | ⟨P, hP, hh⟩
      · rw [c]; exact (h.2.1.2.2 _ (by omega) i1).1
      · exact (Wk.le hl0 h.1 hP (_, _) (List.mem_of_head? hh)).2
    omega
theorem awake_ev : Ev (fun k => carrefourlaw14_awake.f k) true := by
  have h1 : paths_Longest.f 20 3 [(⟨0, 1, 3⟩ : S34), (⟨1, 2, 4⟩ : S34), (⟨0, 2, 5⟩ : S34)] = some ([0, 3, 7], 0) := by decide +kernel
  have h2 : paths_Longest.f 20 3 [(⟨0, 1, 3⟩ : S34), (⟨1, 2, 4⟩ : S34), (⟨0, 2, 5⟩ : S34), (⟨2, 1, 0⟩ : S34)] = some ([], 140) := by decide +kernel
  have h3 : paths_Way.f 20 3 [(⟨0, 1, 3⟩ : S34), (⟨1, 2, 4⟩ : S34), (⟨0, 2, 5⟩ : S34)] 2 = some [0, 1, 2] := by decide +kernel
  exact Ev.bind (Ev.eq rfl) (Ev.bind (Ev.up Longest_up h1) (Ev.itep (by decide) (Ev.bind (Ev.up Longest_up h2) (Ev.bind (Ev.up Way_up h3) (Ev.itep rfl (Ev.itep rfl (Ev.itep (by decide) (Ev.itep rfl (Ev.itep (by decide) (Ev.itep rfl (Ev.itep rfl (Ev.itep rfl (Ev.itep (by decide) (Ev.eq rfl))))))))))))))
/-- few, as the guards say it. -/
theorem few_ev (n : Int) (l : List S34) : ∃ t, carrefourlaw14_few.f n l = some t ∧ (t = true → l.length ≤ 60 ∧ (n ≤ 12 ∨ 64 < n)) := by
  unfold carrefourlaw14_few.f
  by_cases c : n ≤ 12
  · rw [if_pos c]
    refine ⟨_, rfl, fun h => ?_⟩
    have := of_decide_eq_true h
    omega
  · rw [if_neg c]
    by_cases c2 : n > 64
    · rw [if_pos c2]
      refine ⟨_, rfl, fun h => ?_⟩
      have := of_decide_eq_true h
      omega
    · rw [if_neg c2]
      exact ⟨_, rfl, fun h => by cases h⟩
end Go.Proofs.YtcdddmaibchjjaaDoor.Pure
