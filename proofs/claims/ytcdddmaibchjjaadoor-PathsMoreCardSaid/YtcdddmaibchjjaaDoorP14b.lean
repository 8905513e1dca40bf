/- The search of package paths, in plain lists: what holds while it goes on, that it ends, and what its end says.
   Conditions: as each theorem's head says. -/
import Derived.Test.YtcdddmaibchjjaaDoorH7
import Derived.Test.YtcdddmaibchjjaaDoorP14a
namespace Go.Proofs.YtcdddmaibchjjaaDoor.Pure
set_option linter.unusedVariables false
open Go.RowKit Go.Proofs.YtcdddmaibchjjaaDoor.X Go.Proofs.YtcdddmaibchjjaaDoorW.PrintWords Go.Proofs.YtcdddmaibchjjaaDoorW.PrintLast Go.Proofs.YtcdddmaibchjjaaDoorW.PrintMore
abbrev WkE (l : List S34) := Wk (fun e : S34 => e.f0) (fun e => e.f1) (fun e => e.f2) l
abbrev FitsE (l : List S34) := Fits (fun e : S34 => e.f0) (fun e => e.f1) (fun e => e.f2) l
/-- Each entry is longer than the elder ones of its point. -/
def Fr : List (Int × Int) → Prop
  | [] => True
  | p :: t => (∀ q ∈ t, q.1 = p.1 → q.2 < p.2) ∧ Fr t
/-- A graph: what right says. -/
def Gr (n : Nat) (l : List S34) : Prop := ∀ e ∈ l, (0 ≤ e.f0 ∧ e.f0 < n) ∧ 0 ≤ e.f1 ∧ e.f1 < n ∧ 0 ≤ e.f2 ∧ e.f2 ≤ 6000
theorem fr_nodup {l : List S34} {D : Int → Int} (hl : ∀ e ∈ l, 0 ≤ e.f2) (hD : FitsE l D) : ∀ {P : List (Int × Int)}, WkE l P → Fr P → (P.map Prod.fst).Nodup
  | [], h, _ => h.elim
  | [p], _, _ => by simp
  | p :: q :: t, h, hf => by
    rw [List.map_cons, List.nodup_cons]
    exact ⟨Wk.fresh hl hD h hf.1, fr_nodup hl hD h.2 hf.2⟩
/-- A walk of fresh entries has n points at most, where lengths that fit exist. -/
theorem fr_short {n : Nat} {l : List S34} {D : Int → Int} (hn : 1 ≤ n) (hl : Gr n l) (hD : FitsE l D) {P : List (Int × Int)} (hP : WkE l P) (hf : Fr P) : P.length ≤ n := by
  have h1 := fr_nodup (fun e he => (hl e he).2.2.2.1) hD hP hf
  have h2 := nodup_le h1 (n := n) (fun x hx => by
    obtain ⟨q, hq, rfl⟩ := List.mem_map.1 hx
    exact Wk.points (n := n) (by omega) (fun e he => ⟨(hl e he).2.1, (hl e he).2.2.1⟩) hP q hq)
  rwa [List.length_map] at h2
/-- The way by which a point was reached: as many edges as told, each entry no longer than its point is now. -/
def Reached (l : List S34) (far edges : List Int) (v : Int) : Prop := ∃ P, WkE l P ∧ P.head? = some (v, rd far v) ∧ (P.length : Int) = rd edges v + 1 ∧ Fr P ∧ ∀ q ∈ P, q.2 ≤ rd far q.1
structure Inv (n : Nat) (l : List S34) (f : Nat → Bool) (pend : S34 → Prop) (S : Int) (far edges : List Int) : Prop where
  bd : Bd n far edges
  set : SetOf S f
  pts : ∀ i, f i = true → i < n ∧ 0 ≤ rd far (i : Int)
  zero : 0 ≤ rd far 0
  way : ∀ v : Int, 0 ≤ v → v < n → rd far v = -1 ∨ Reached l far edges v
  fit : ∀ e ∈ l, ¬ pend e → rd far e.f0 < 0 ∨ rd far e.f0 + e.f2 ≤ rd far e.f1 ∨ f e.f0.toNat = true
def pot (far : List Int) : Nat := (far.map fun x => (400000 - x).toNat).sum
theorem sum_set (l : List Nat) (i : Nat) (y : Nat) (h : i < l.length) (hy : y < l[i]) : (l.set i y).sum < l.sum := by
  induction l generalizing i with
  | nil => simp at h
  | cons a t ih =>
    cases i with
    | zero =>
      simp only [List.set_cons_zero, List.sum_cons, List.getElem_cons_zero] at hy ⊢
      omega
    | succ i =>
      simp only [List.set_cons_succ, List.sum_cons, List.getElem_cons_succ] at hy ⊢
      have := ih i (by simpa using h) hy
      omega
theorem pot_set {far : List Int} {i x : Int} (h0 : 0 ≤ i) (h1 : i < far.length) (hx : rd far i < x) (hm : x ≤ 400000) : pot (far.set i.toNat x) < pot far := by
  unfold pot
  rw [List.map_set]
  have hi : i.toNat < far.length := by omega
  apply sum_set _ _ _ (by simpa using hi)
  rw [List.getElem_map]
  have : rd far i = far[i.toNat] := by unfold rd; rw [List.getD_eq_getElem?_getD, List.getElem?_eq_getElem hi]; rfl
  omega
/-- The way to an edge's end, where the edge makes it longer. -/
theorem way_on {n : Nat} {l : List S34} {far edges : List Int} {e : S34} (hel : e ∈ l) (hw : Reached l far edges e.f0) (hlt : rd far e.f1 < rd far e.f0 + e.f2) :
    ∃ P, WkE l P ∧ P.head? = some (e.f1, rd far e.f0 + e.f2) ∧ (P.length : Int) = rd edges e.f0 + 2 ∧ Fr P ∧ ∀ q ∈ P.tail, q.2 ≤ rd far q.1 := by
  obtain ⟨P, hP, hh, hlen, hf, hb⟩ := hw
  cases P with
  | nil => exact hP.elim
  | cons p t =>
    have e1 : p = (e.f0, rd far e.f0) := by simpa using hh
    subst e1
    refine ⟨(e.f1, rd far e.f0 + e.f2) :: (e.f0, rd far e.f0) :: t, ⟨⟨e, hel, rfl, rfl, rfl⟩, hP⟩, rfl, by simp only [List.length_cons] at hlen ⊢; omega, ⟨fun q hq hq1 => ?_, hf⟩, fun q hq => hb q hq⟩
    have h1 := hb q hq
    have h2 : q.1 = e.f1 := hq1
    rw [h2] at h1
    show q.2 < rd far e.f0 + e.f2
    omega
theorem relax_step {n : Nat} {l : List S34} {f : Nat → Bool} {e : S34} {rest : List S34} {p S : Int} {far edges : List Int} (hn1 : 1 ≤ n) (hn : n ≤ 64) (hg : Gr n l) (hel : e ∈ l) (hp : e.f0 = p) (h : Inv n l f (fun x => x ∈ e :: rest) S far edges) (hr : 0 ≤ rd far p) :
    (relax1 n p e S far edges = none → ∀ D, ¬ FitsE l D) ∧ ∀ st, relax1 n p e S far edges = some st → ∃ f', Inv n l f' (fun x => x ∈ rest) st.1 st.2.1 st.2.2 ∧ 0 ≤ rd st.2.1 p ∧ ((st.1 = S ∧ st.2.1 = far ∧ st.2.2 = edges) ∨ pot st.2.1 < pot far) := by
  subst hp
  obtain ⟨⟨p0, p1⟩, t0, t1, z0, z1⟩ := hg e hel
  have hl0 : ∀ e ∈ l, 0 ≤ e.f2 := fun e he => (hg e he).2.2.2.1
  have hw : Reached l far edges e.f0 := (h.way e.f0 p0 p1).resolve_left (by omega)
  have hbp := h.bd.2.2 e.f0 p0 p1
  unfold relax1
  by_cases c : rd far e.f0 + e.f2 ≤ rd far e.f1
  · rw [if_pos c]
    refine ⟨fun hh => (by cases hh), fun st hst => ?_⟩
    obtain rfl := Option.some.inj hst
    refine ⟨f, { h with fit := fun x hx hnp => ?_ }, hr, .inl ⟨rfl, rfl, rfl⟩⟩
    by_cases e1 : x = e
    · subst e1
      exact .inr (.inl c)
    · exact h.fit x hx (fun hm => by rcases List.mem_cons.1 hm with hm | hm; exact e1 hm; exact hnp hm)
  · rw [if_neg c]
    obtain ⟨P, hP, hh, hlen, hf, hb⟩ := way_on (n := n) hel hw (by omega)
    by_cases c2 : (n : Int) ≤ rd edges e.f0 + 1
    · rw [if_pos c2]
      refine ⟨fun _ D hD => ?_, fun st hst => (by cases hst)⟩
      have := fr_short hn1 hg hD hP hf
      omega
    · rw [if_neg c2]
      refine ⟨fun hh => (by cases hh), fun st hst => ?_⟩
      obtain rfl := Option.some.inj hst
      have l1 : e.f1 < far.length := by rw [h.bd.1]; exact t1
      have l2 : e.f1 < edges.length := by rw [h.bd.2.1]; exact t1
      have mono : ∀ v : Int, 0 ≤ v → rd far v ≤ rd (far.set e.f1.toNat (rd far e.f0 + e.f2)) v := fun v hv => by
        rw [rd_set t0 l1 hv]
        by_cases cv : v = e.f1
        · rw [if_pos cv, cv]; omega
        · rw [if_neg cv]; exact Int.le_refl _
      refine ⟨fun i => f i || i == e.f1.toNat, ⟨h.bd.relax p0 p1 ⟨t0, t1, z0, z1⟩ c2 c, h.set.put t0 (by omega), fun i hi => ?_, Int.le_trans h.zero (mono 0 (by decide)), fun v v0 v1 => ?_, fun x hx hnp => ?_⟩, Int.le_trans hr (mono _ p0), .inr (pot_set t0 l1 (by omega) (by omega))⟩
      · simp only [Bool.or_eq_true, beq_iff_eq] at hi
        rcases hi with hi | hi
        · exact ⟨(h.pts i hi).1, Int.le_trans (h.pts i hi).2 (mono _ (by omega))⟩
        · subst hi
          refine ⟨by omega, ?_⟩
          rw [rd_set t0 l1 (by omega), if_pos (by omega)]
          omega
      · rw [rd_set t0 l1 v0]
        by_cases cv : v = e.f1
        · rw [if_pos cv]
          subst cv
          refine .inr ⟨P, hP, by rw [hh, rd_set t0 l1 t0, if_pos rfl], by rw [rd_set t0 l2 t0, if_pos rfl]; omega, hf, fun q hq => ?_⟩
          cases P with
          | nil => cases hq
          | cons a t =>
            rcases List.mem_cons.1 hq with rfl | hq
            · have : q = (e.f1, rd far e.f0 + e.f2) := by simpa using hh
              subst this
              simp only
              rw [rd_set t0 l1 t0, if_pos rfl]
              exact Int.le_refl _
            · have hq0 := Wk.points (n := (n : Int)) (by omega) (fun e he => ⟨(hg e he).2.1, (hg e he).2.2.1⟩) hP q (List.mem_cons_of_mem _ hq)
              exact Int.le_trans (hb q hq) (mono _ hq0.1)
        · rw [if_neg cv]
          rcases h.way v v0 v1 with hv | ⟨Q, hQ, hqh, hql, hqf, hqb⟩
          · exact .inl hv
          · refine .inr ⟨Q, hQ, by rw [hqh, rd_set t0 l1 v0, if_neg cv], by rw [rd_set t0 l2 v0, if_neg cv]; exact hql, hqf, fun q hq => ?_⟩
            have hq0 := Wk.points (n := (n : Int)) (by omega) (fun e he => ⟨(hg e he).2.1, (hg e he).2.2.1⟩) hQ q hq
            exact Int.le_trans (hqb q hq) (mono _ hq0.1)
      · obtain ⟨⟨x0, x1⟩, y0, y1, _, _⟩ := hg x hx
        by_cases c3 : x.f0 = e.f1
        · refine .inr (.inr ?_)
          rw [c3]
          simp
        · rw [rd_set t0 l1 x0, if_neg c3]
          by_cases e1 : x = e
          · subst e1
            refine .inr (.inl ?_)
            rw [rd_set t0 l1 t0, if_pos rfl]
            exact Int.le_refl _
          · rcases h.fit x hx (fun hm => by rcases List.mem_cons.1 hm with hm | hm; exact e1 hm; exact hnp hm) with hh | hh | hh
            · exact .inl hh
            · exact .inr (.inl (Int.le_trans hh (mono _ y0)))
            · exact .inr (.inr (by rw [hh]; rfl))
theorem relaxAll_step {n : Nat} {l : List S34} {p : Int} (hn1 : 1 ≤ n) (hn : n ≤ 64) (hg : Gr n l) : ∀ (rest : List S34) (S : Int) (far edges : List Int) (f : Nat → Bool), (∀ e ∈ rest, e ∈ l ∧ e.f0 = p) → Inv n l f (fun x => x ∈ rest) S far edges → 0 ≤ rd far p →
    (relaxAll n p rest S far edges = none → ∀ D, ¬ FitsE l D) ∧ ∀ st, relaxAll n p rest S far edges = some st → ∃ f', Inv n l f' (fun _ => False) st.1 st.2.1 st.2.2 ∧ ((st.1 = S ∧ st.2.1 = far ∧ st.2.2 = edges) ∨ pot st.2.1 < pot far)
  | [], S, far, edges, f, _, h, hr => by
    refine ⟨fun hh => (by cases hh), fun st hst => ?_⟩
    obtain rfl := Option.some.inj (show some (S, far, edges) = some st from hst)
    exact ⟨f, { h with fit := fun e he hp => h.fit e he (fun hm => by cases hm) }, .inl ⟨rfl, rfl, rfl⟩⟩
  | e :: rest, S, far, edges, f, hm, h, hr => by
    obtain ⟨he1, he2⟩ := hm e List.mem_cons_self
    obtain ⟨s1, s2⟩ := relax_step hn1 hn hg he1 he2 h hr
    cases c : relax1 n p e S far edges with
    | none =>
      have e0 : relaxAll n p (e :: rest) S far edges = none := by
        show (relax1 n p e S far edges).bind _ = none
        rw [c]; rfl
      exact ⟨fun _ => s1 c, fun st hst => (by rw [e0] at hst; cases hst)⟩
    | some s0 =>
      have e0 : relaxAll n p (e :: rest) S far edges = relaxAll n p rest s0.1 s0.2.1 s0.2.2 := by
        show (relax1 n p e S far edges).bind _ = _
        rw [c]; rfl
      obtain ⟨f1, i1, r1, o1⟩ := s2 s0 c
      obtain ⟨a1, a2⟩ := relaxAll_step hn1 hn hg rest s0.1 s0.2.1 s0.2.2 f1 (fun x hx => hm x (List.mem_cons_of_mem _ hx)) i1 r1
      rw [e0]
      refine ⟨a1, fun st hst => ?_⟩
      obtain ⟨f', i', o'⟩ := a2 st hst
      refine ⟨f', i', ?_⟩
      rcases o1 with ⟨x1, x2, x3⟩ | x
      · rw [x1, x2, x3] at o'
        exact o'
      · rcases o' with ⟨_, y, _⟩ | y
        · rw [y]; exact .inr x
        · exact .inr (Nat.lt_trans y x)
theorem drop_lt {S : Int} {f : Nat → Bool} (h : SetOf S f) {q : Int} (h0 : 0 ≤ q) (h1 : q < 64) (hf : f q.toNat = true) : (sDrop S q).toNat < S.toNat := by
  have hd := h.drop h0 h1
  obtain ⟨m, rfl, _, hm⟩ := h
  obtain ⟨d, he, _, hdd⟩ := hd
  rw [he, Int.toNat_natCast, Int.toNat_natCast]
  have e : m &&& d = d := Nat.eq_of_testBit_eq fun i => by
    rw [Nat.testBit_and, hm, hdd]
    show (f i && (f i && i != q.toNat)) = (f i && i != q.toNat)
    rw [← Bool.and_assoc, Bool.and_self]
  have hle : d ≤ m := by rw [← e]; exact Nat.and_le_left
  have hne : d ≠ m := by
    intro e2
    have a := hdd q.toNat
    rw [e2, hm, hf] at a
    simp at a
  omega
theorem run_ends {n : Nat} {l : List S34} (hn1 : 1 ≤ n) (hn : n ≤ 64) (hg : Gr n l) : ∀ (A B : Nat) (S : Int) (far edges : List Int) (f : Nat → Bool), Inv n l f (fun _ => False) S far edges → pot far < A → S.toNat < B →
    ∃ k r, runF n (rowsOf n l) k S far edges = some r ∧ (r = none → ∀ D, ¬ FitsE l D) ∧ ∀ fe, r = some fe → FitsE l (rd fe.1) ∧ Bd n fe.1 fe.2 ∧ ∀ v : Int, 0 ≤ v → v < n → rd fe.1 v = -1 ∨ Reached l fe.1 fe.2 v := by
  intro A
  induction A with
  | zero => intro B S far edges f _ h; omega
  | succ A ihA =>
    intro B
    induction B with
    | zero => intro S far edges f _ _ h; omega
    | succ B ihB =>
      intro S far edges f h hA hB
      by_cases c : S = 0
      · subst c
        refine ⟨1, some (far, edges), rfl, fun hh => (by cases hh), fun fe hfe => ?_⟩
        obtain rfl := Option.some.inj hfe
        refine ⟨⟨h.zero, fun e he h0 => ?_⟩, h.bd, h.way⟩
        rcases h.fit e he (fun x => x) with hh | hh | hh
        · exact absurd h0 (by show ¬ 0 ≤ rd far e.f0; omega)
        · exact hh
        · obtain ⟨m, hm, _, hb⟩ := h.set
          have : m = 0 := by omega
          subst this
          rw [← hb] at hh
          simp at hh
      · obtain ⟨hl0, hl1⟩ := h.set.least c
        have hp : 0 ≤ lowOf S ∧ lowOf S < n ∧ lowOf S < 64 ∧ f (lowOf S).toNat = true ∧ 0 ≤ rd far (lowOf S) := by
          have := h.pts _ hl1
          unfold lowOf
          exact ⟨by omega, by omega, by omega, by rw [Int.toNat_natCast]; exact hl1, this.2⟩
        obtain ⟨p0, p1, p2, p3, p4⟩ := hp
        generalize hpe : lowOf S = p at *
        have hrow : (rowsOf n l).getD p.toNat [] = l.filter fun e => decide (e.f0 = p) := by
          rw [rowsOf_get n l (by omega), Int.toNat_of_nonneg p0]
        have hi : Inv n l (fun i => f i && i != p.toNat) (fun x => x ∈ (rowsOf n l).getD p.toNat []) (sDrop S p) far edges := by
          refine { bd := h.bd, set := h.set.drop p0 p2, pts := fun i hi => ?_, zero := h.zero, way := h.way, fit := fun e he hnp => ?_ }
          · simp only [Bool.and_eq_true] at hi
            exact h.pts i hi.1
          · rcases h.fit e he (fun x => x) with hh | hh | hh
            · exact .inl hh
            · exact .inr (.inl hh)
            · refine .inr (.inr ?_)
              have hne : e.f0.toNat ≠ p.toNat := by
                intro e2
                apply hnp
                rw [hrow]
                have := (hg e he).1.1
                simp only [List.mem_filter, decide_eq_true_eq]
                exact ⟨he, by omega⟩
              simp [hh, hne]
        obtain ⟨a1, a2⟩ := relaxAll_step hn1 hn hg ((rowsOf n l).getD p.toNat []) (sDrop S p) far edges _ (fun e he => by
          rw [hrow] at he
          simp only [List.mem_filter, decide_eq_true_eq] at he
          exact he) hi p4
        cases hr : relaxAll n p ((rowsOf n l).getD p.toNat []) (sDrop S p) far edges with
        | none =>
          refine ⟨1, none, ?_, fun _ => a1 hr, fun fe hfe => (by cases hfe)⟩
          simp only [runF, if_neg c, hpe, hr]
        | some st =>
          obtain ⟨f', i', o'⟩ := a2 st hr
          have key : ∃ k r, runF n (rowsOf n l) k st.1 st.2.1 st.2.2 = some r ∧ (r = none → ∀ D, ¬ FitsE l D) ∧ ∀ fe, r = some fe → FitsE l (rd fe.1) ∧ Bd n fe.1 fe.2 ∧ ∀ v : Int, 0 ≤ v → v < n → rd fe.1 v = -1 ∨ Reached l fe.1 fe.2 v := by
            rcases o' with ⟨x1, x2, x3⟩ | x
            · have hd := drop_lt h.set p0 p2 p3
              rw [← x1] at hd
              exact ihB _ _ _ f' i' (by rw [x2]; exact hA) (by omega)
            · exact ihA (st.1.toNat + 1) _ _ _ f' i' (by omega) (by omega)
          obtain ⟨k, r, hk, hrest⟩ := key
          refine ⟨k + 1, r, ?_, hrest⟩
          simp only [runF, if_neg c, hpe, hr]
          exact hk
end Go.Proofs.YtcdddmaibchjjaaDoor.Pure
