/- The reference's way of law 14, where all edges are above 0: it is the way that Way tells. Plain lists.
   Conditions: as each theorem's head says. -/
import Derived.Test.YtcdddmaibchjjaaDoorP14e
import Derived.Test.YtcdddmaibchjjaaDoorP14f
namespace Go.Proofs.YtcdddmaibchjjaaDoor.Pure
set_option linter.unusedVariables false
open Go.RowKit Go.Proofs.YtcdddmaibchjjaaDoor.X Go.Proofs.YtcdddmaibchjjaaDoorW.PrintWords Go.Proofs.YtcdddmaibchjjaaDoorW.PrintLast Go.Proofs.YtcdddmaibchjjaaDoorW.PrintMore
abbrev R0 (l : List S34) (far : List Int) (dest : Int) (p : Int) : Prop := Rv l far dest (fun _ => false) p
theorem Rv.clear_ {l : List S34} {far : List Int} {dest : Int} {V : Nat → Bool} (hpos : ∀ e ∈ l, 0 < e.f2) (h0 : ∀ e ∈ l, 0 ≤ e.f0) {p : Int} (h : R0 l far dest p) : (∀ i : Nat, V i = true → rd far (i : Int) < rd far p) → Rv l far dest V p := by
  induction h with
  | base => intro _; exact .base
  | step e he hf ht hv _ ih =>
    intro hV
    have hp := hpos e he
    refine .step e he hf ht ?_ (ih fun i hi => by have := hV i hi; omega)
    cases c : V e.f0.toNat with
    | false => rfl
    | true =>
      have := hV _ c
      rw [Int.toNat_of_nonneg (h0 e he)] at this
      omega
/-- A tight edge from at_ to q. -/
def Tn (l : List S34) (far : List Int) (at_ q : Int) : Prop := ∃ e ∈ l, e.f0 = at_ ∧ e.f1 = q ∧ rd far q = rd far at_ + e.f2
def tt (far : List Int) (at_ q : Int) (e : S34) : Bool := decide (e.f0 = at_) && (decide (e.f1 = q) && (rd far q == rd far at_ + e.f2))
theorem tt_any {l : List S34} {far : List Int} {at_ q : Int} : l.any (tt far at_ q) = true ↔ Tn l far at_ q := by
  rw [List.any_eq_true]
  unfold Tn tt
  simp
theorem on_l1 {n : Nat} {l : List S34} {far : List Int} {at_ p dest : Int} {next : List Bool} (hl : l.length ≤ 60) (hg : Gr n l) (hlen : far.length = n) (a0 : 0 ≤ at_) (a1 : at_ < n) (p0 : 0 ≤ p) (p1 : p < n) (b0 : -1 ≤ rd far at_) (b1 : rd far at_ ≤ 1000000) {X Y : Nat → Option (List Int)} {r : List Int}
    (hX : ∀ k, X k = (carrefourref14_on.f k far l p dest next).bind fun t166 => (if (t166.length : Int) > 0 then ((some (([at_] : List Int) : List Int)).bind fun y169 => (if y169.length + t166.length < 17592186044416 then (some (y169 ++ t166)) else (none))) else (carrefourref14_on.l0 k far l at_ dest next (wrap64 (p + 1)))))
    (hY : ∀ k, Y k = carrefourref14_on.l0 k far l at_ dest next (wrap64 (p + 1))) : ∀ (c i : Nat) (b : Bool), i + c = l.length → Ev (fun k => if (b || (l.drop i).any (tt far at_ p)) = true then X k else Y k) r → Ev (fun k => carrefourref14_on.l1 k far l at_ dest next p b (i : Int)) r
  | 0, i, b, hi, h => by
    rw [List.drop_of_length_le (by omega)] at h
    simp only [List.any_nil, Bool.or_false] at h
    refine Ev.step (fun k => by rw [carrefourref14_on.l1]) (Ev.iten (by omega) ?_)
    refine Ev.congr (fun k => ?_) h
    rw [hX, hY]
  | c + 1, i, b, hi, h => by
    obtain ⟨e1, e2⟩ := drop_at (l := l) (i := i) (by omega)
    have ew : wrap64 ((i : Int) + 1) = ((i + 1 : Nat) : Int) := by rw [w64 (by omega) (by omega)]; rfl
    have hm : l[i] ∈ l := List.getElem_mem _
    rw [e2, List.any_cons] at h
    have ih := fun b' => on_l1 (dest := dest) (next := next) hl hg hlen a0 a1 p0 p1 b0 b1 hX hY c (i + 1) b' (by omega) (r := r)
    cases b with
    | true =>
      refine Ev.step (fun k => by rw [carrefourref14_on.l1]) (Ev.itep (by omega) (Ev.itep rfl ?_))
      simp only [ew]
      refine ih true ?_
      simp only [Bool.true_or] at h ⊢
      exact h
    | false =>
      simp only [Bool.false_or] at h
      have unf : ∀ k, carrefourref14_on.l1 (k + 1) far l at_ dest next p false (i : Int) = (if (i : Int) < (l.length : Int) then (if (false : Bool) = true then (carrefourref14_on.l1 k far l at_ dest next p true ((i + 1 : Nat) : Int)) else (if 0 ≤ (i : Int) then (if (l[i].f0) = at_ then (if (l[i].f1) = p then (if 0 ≤ p then (if p < (far.length : Int) then (if 0 ≤ at_ then (if at_ < (far.length : Int) then (carrefourref14_on.l1 k far l at_ dest next p ((rd far p) == (wrap64 ((rd far at_) + (l[i].f2)))) ((i + 1 : Nat) : Int)) else (none)) else (none)) else (none)) else (none)) else (carrefourref14_on.l1 k far l at_ dest next p false ((i + 1 : Nat) : Int))) else (carrefourref14_on.l1 k far l at_ dest next p false ((i + 1 : Nat) : Int))) else (none))) else (if (false : Bool) = true then (X k) else (Y k))) := fun k => by
        rw [carrefourref14_on.l1, e1, ew, hX, hY]
      generalize l[i] = e at *
      obtain ⟨_, _, _, z0, z1⟩ := hg e hm
      refine Ev.step unf (Ev.itep (by omega) (Ev.iten (by decide) (Ev.itep (by omega) ?_)))
      have ew2 : wrap64 (rd far at_ + e.f2) = rd far at_ + e.f2 := w64 (by omega) (by omega)
      by_cases c1 : e.f0 = at_
      · refine Ev.itep c1 ?_
        by_cases c2 : e.f1 = p
        · refine Ev.itep c2 (Ev.itep p0 (Ev.itep (by omega) (Ev.itep a0 (Ev.itep (by omega) ?_))))
          rw [ew2]
          refine ih _ ?_
          have : tt far at_ p e = (rd far p == rd far at_ + e.f2) := by unfold tt; rw [decide_eq_true c1, decide_eq_true c2]; rfl
          rw [← this]
          exact h
        · refine Ev.iten c2 (ih false ?_)
          have : tt far at_ p e = false := by unfold tt; rw [decide_eq_false c2]; simp
          rw [this] at h
          exact h
      · refine Ev.iten c1 (ih false ?_)
        have : tt far at_ p e = false := by unfold tt; rw [decide_eq_false c1]; simp
        rw [this] at h
        exact h
/-- What is known of the way from a point. -/
structure OnSays (n : Nat) (l : List S34) (far : List Int) (dest p : Int) (L : List Int) : Prop where
  no : ¬ R0 l far dest p → L = []
  yes : ∀ V rest, Gp n l far dest V p rest → (∀ i : Nat, V i = true → rd far (i : Int) < rd far p) → L = p :: rest
theorem on_l0 {n : Nat} {l : List S34} {far : List Int} {at_ dest : Int} {next : List Bool} {B : Nat} (hB : B ≤ 2000000) (hn : n ≤ 64) (hl : l.length ≤ 60) (hg : Gr n l) (hpos : ∀ e ∈ l, 0 < e.f2) (hlen : far.length = n) (hx : next.length = n) (a0 : 0 ≤ at_) (a1 : at_ < n) (b0 : -1 ≤ rd far at_) (b1 : rd far at_ ≤ 1000000)
    (hskip : ∀ v : Int, 0 ≤ v → v < n → rdOf false next v = true → rd far v ≤ rd far at_)
    (IH : ∀ p : Int, 0 ≤ p → p < n → rd far at_ < rd far p → ∃ L, Ev (fun k => carrefourref14_on.f k far l p dest next) L ∧ OnSays n l far dest p L ∧ L.length ≤ B) : ∀ (c : Nat) (p : Int), 0 ≤ p → p + c = n →
    ∃ L, Ev (fun k => carrefourref14_on.l0 k far l at_ dest next p) L ∧ L.length ≤ B + 1 ∧ ((∀ q, p ≤ q → q < n → Tn l far at_ q → ¬ R0 l far dest q) → L = []) ∧
      (∀ m V rest, p ≤ m → m < n → Tn l far at_ m → (∀ q, p ≤ q → q < m → Tn l far at_ q → ¬ R0 l far dest q) → Gp n l far dest V m rest → (∀ i : Nat, V i = true → rd far (i : Int) < rd far m) → L = at_ :: m :: rest)
  | 0, p, p0, hp => ⟨[], Ev.step (fun k => by rw [carrefourref14_on.l0]) (Ev.iten (by omega) (Ev.eq rfl)), by simp, fun _ => rfl, fun m V rest h1 h2 => by omega⟩
  | c + 1, p, p0, hp => by
    have p1 : p < n := by omega
    obtain ⟨L, hL, hLl, hL1, hL2⟩ := on_l0 (dest := dest) hB hn hl hg hpos hlen hx a0 a1 b0 b1 hskip IH c (p + 1) (by omega) (by omega)
    have ew : wrap64 (p + 1) = p + 1 := w64 (by omega) (by omega)
    have skip : Ev (fun k => carrefourref14_on.l0 k far l at_ dest next p) L → (∀ V rest, Tn l far at_ p → Gp n l far dest V p rest → (∀ i : Nat, V i = true → rd far (i : Int) < rd far p) → False) →
        ∃ L, Ev (fun k => carrefourref14_on.l0 k far l at_ dest next p) L ∧ L.length ≤ B + 1 ∧ ((∀ q, p ≤ q → q < n → Tn l far at_ q → ¬ R0 l far dest q) → L = []) ∧
      (∀ m V rest, p ≤ m → m < n → Tn l far at_ m → (∀ q, p ≤ q → q < m → Tn l far at_ q → ¬ R0 l far dest q) → Gp n l far dest V m rest → (∀ i : Nat, V i = true → rd far (i : Int) < rd far m) → L = at_ :: m :: rest) := fun h hno =>
      ⟨L, h, hLl, fun hq => hL1 fun q h1 h2 => hq q (by omega) h2, fun m V rest h1 h2 h3 h4 h5 h6 => by
        by_cases cm : m = p
        · subst cm
          exact (hno V rest h3 h5 h6).elim
        · exact hL2 m V rest (by omega) h2 h3 (fun q q1 q2 => h4 q (by omega) q2) h5 h6⟩
    have stp : ∀ r, Ev (fun k => if rdOf false next p = true then (carrefourref14_on.l0 k far l at_ dest next (p + 1)) else (carrefourref14_on.l1 k far l at_ dest next p false 0)) r → Ev (fun k => carrefourref14_on.l0 k far l at_ dest next p) r := fun r h =>
      Ev.step (fun k => by rw [carrefourref14_on.l0, ew]) (Ev.itep (by omega) (Ev.itep p0 (Ev.itep (by omega) h)))
    by_cases cs : rdOf false next p = true
    · refine skip (stp _ (Ev.itep cs hL)) (fun V rest ht _ _ => ?_)
      obtain ⟨e, he, _, _, h3⟩ := ht
      have := hpos e he
      have := hskip p p0 p1 cs
      omega
    · have go := fun r h => stp r (Ev.iten cs (on_l1 (dest := dest) (next := next) hl hg hlen a0 a1 p0 p1 b0 b1 (fun k => rfl) (fun k => rfl) l.length 0 false (by omega) h))
      simp only [List.drop_zero, Bool.false_or] at go
      by_cases ct : l.any (tt far at_ p) = true
      · have htn := tt_any.1 ct
        have hlt : rd far at_ < rd far p := by
          obtain ⟨e, he, _, _, h3⟩ := htn
          have := hpos e he
          omega
        obtain ⟨L', i1, i2, i3⟩ := IH p p0 p1 hlt
        by_cases cL : (L'.length : Int) > 0
        · refine ⟨at_ :: L', go _ (Ev.itep ct (Ev.bind i1 (Ev.itep cL (Ev.bind (Ev.eq rfl) (Ev.itep (by simp; omega) (Ev.eq rfl)))))), by simp; omega, fun hq => ?_, fun m V rest h1 h2 h3 h4 h5 h6 => ?_⟩
          · have := i2.no (hq p (Int.le_refl _) p1 htn)
            rw [this] at cL
            simp at cL
          · by_cases cm : m = p
            · subst cm
              rw [i2.yes V rest h5 h6]
            · have := i2.no (h4 p (Int.le_refl _) (by omega) htn)
              rw [this] at cL
              simp at cL
        · refine skip (go _ (Ev.itep ct (Ev.bind i1 (Ev.iten cL (by simp only [ew]; exact hL))))) (fun V rest _ h5 h6 => ?_)
          rw [i2.yes V rest h5 h6] at cL
          simp at cL
      · refine skip (go _ (Ev.iten ct (by simp only [ew]; exact hL))) (fun V rest ht _ _ => ct (tt_any.2 ht))
theorem rdOf_set {l : List Bool} {i j : Int} (hi0 : 0 ≤ i) (hi : i < l.length) (hj0 : 0 ≤ j) (x : Bool) : rdOf false (l.set i.toNat x) j = if j = i then x else rdOf false l j := by
  unfold rdOf
  rw [List.getD_eq_getElem?_getD, List.getD_eq_getElem?_getD, List.getElem?_set]
  by_cases c : j = i
  · subst c
    rw [if_pos rfl, if_pos rfl, if_pos (by omega)]
    rfl
  · rw [if_neg (by omega), if_neg c]
theorem on_says {n : Nat} {l : List S34} {far : List Int} {dest : Int} (hn : n ≤ 64) (hl : l.length ≤ 60) (hg : Gr n l) (hpos : ∀ e ∈ l, 0 < e.f2) (hlen : far.length = n) (hlo : ∀ v : Int, 0 ≤ v → v < n → -1 ≤ rd far v) (hhi : ∀ v : Int, 0 ≤ v → v < n → rd far v ≤ 1000000) : ∀ (c : Nat) (at_ : Int) (used : List Bool), c ≤ 1000002 → 1000001 - rd far at_ ≤ (c : Int) → used.length = n → 0 ≤ at_ → at_ < n → 0 ≤ rd far at_ → (∀ v : Int, 0 ≤ v → v < n → rdOf false used v = true → rd far v < rd far at_) →
    ∃ L, Ev (fun k => carrefourref14_on.f k far l at_ dest used) L ∧ OnSays n l far dest at_ L ∧ L.length ≤ c
  | 0, at_, used, hcc, hc, hu, a0, a1, hz, hV => by have := hhi at_ a0 a1; omega
  | c + 1, at_, used, hcc, hc, hu, a0, a1, hz, hV => by
    by_cases cd : at_ = dest
    · subst cd
      refine ⟨[at_], Ev.step (fun k => by rw [carrefourref14_on.f]) (Ev.itep rfl (Ev.eq rfl)), ⟨fun h => absurd (Rv.base) h, fun V rest h _ => ?_⟩, by simp⟩
      cases h with
      | done => rfl
      | step _ _ m rest' x hne => exact absurd rfl hne
    · have hxl : (used.set at_.toNat true).length = n := by rw [List.length_set]; exact hu
      have hsk : ∀ v : Int, 0 ≤ v → v < n → rdOf false (used.set at_.toNat true) v = true → rd far v ≤ rd far at_ := fun v v0 v1 h => by
        rw [rdOf_set a0 (by omega) v0] at h
        by_cases cv : v = at_
        · rw [cv]; exact Int.le_refl _
        · rw [if_neg cv] at h
          have := hV v v0 v1 h
          omega
      obtain ⟨L, h1, h2, h3, h4⟩ := on_l0 (dest := dest) (next := used.set at_.toNat true) (B := c) (by omega) hn hl hg hpos hlen hxl a0 a1 (hlo _ a0 a1) (hhi _ a0 a1) hsk (fun p p0 p1 hp =>
        on_says hn hl hg hpos hlen hlo hhi c p (used.set at_.toNat true) (by omega) (by omega) hxl p0 p1 (by omega) (fun v v0 v1 h => by have := hsk v v0 v1 h; omega)) n 0 (by decide) (by omega)
      refine ⟨L, Ev.step (f := fun k => carrefourref14_on.l0 k far l at_ dest (used.set at_.toNat true) 0) (fun k => by rw [carrefourref14_on.f, if_neg cd]; simp only [Option.bind_some, List.nil_append, List.length_nil]; rw [if_pos (by omega), if_pos a0, if_pos (by omega)]) h1, ⟨fun hno => h3 fun q q0 q1 ht hr => ?_, fun V rest h hVf => ?_⟩, h2⟩
      · obtain ⟨e, he, e0, e1, e2⟩ := ht
        refine hno ?_
        rw [← e0]
        exact .step e he (by rw [e0]; exact hz) (by rw [e0, e1]; exact e2) rfl (by rw [e1]; exact hr)
      · cases h with
        | done => exact absurd rfl cd
        | step _ _ m rest' e hne he e0 e1 e2 hp hv b0 b1 m0 m1 hr hmin hgp =>
          have hlt : rd far at_ < rd far m := by have := hpos e he; omega
          have hV' : ∀ i : Nat, vAdd V at_ i = true → rd far (i : Int) < rd far m := fun i hi => by
            by_cases ci : i = at_.toNat
            · subst ci
              rw [Int.toNat_of_nonneg a0]
              exact hlt
            · rw [vAdd_ne ci] at hi
              have := hVf i hi
              omega
          exact h4 m _ rest' m0 m1 ⟨e, he, e0, e1, e2⟩ (fun q q0 q1 ht hq => by
            obtain ⟨x, hx, x0, x1, x2⟩ := ht
            have hxp := hpos x hx
            have := hmin x hx x0 (by rw [x1]; exact x2) (by
              rw [x1]
              refine Rv.clear_ hpos (fun e he => (hg e he).1.1) hq (fun i hi => ?_)
              by_cases ci : i = at_.toNat
              · subst ci
                rw [Int.toNat_of_nonneg a0]
                omega
              · rw [vAdd_ne ci] at hi
                have := hVf i hi
                omega)
            omega) hgp hV'
end Go.Proofs.YtcdddmaibchjjaaDoor.Pure
