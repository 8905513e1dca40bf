/- The search of ways of package paths, in plain lists: which points reach says, which point is next, which way Way tells.
   Conditions: as each theorem's head says. -/
import Derived.Test.YtcdddmaibchjjaaDoorP14c
namespace Go.Proofs.YtcdddmaibchjjaaDoor.Pure
set_option linter.unusedVariables false
open Go.RowKit Go.Proofs.YtcdddmaibchjjaaDoor.X Go.Proofs.YtcdddmaibchjjaaDoorW.PrintWords Go.Proofs.YtcdddmaibchjjaaDoorW.PrintLast Go.Proofs.YtcdddmaibchjjaaDoorW.PrintMore
/-- A point from which tight edges lead on to dest, by points that are not in V. -/
inductive Rv (l : List S34) (far : List Int) (dest : Int) (V : Nat → Bool) : Int → Prop
  | base : Rv l far dest V dest
  | step (e : S34) : e ∈ l → 0 ≤ rd far e.f0 → rd far e.f1 = rd far e.f0 + e.f2 → V e.f0.toNat = false → Rv l far dest V e.f1 → Rv l far dest V e.f0
def vAdd (V : Nat → Bool) (p : Int) : Nat → Bool := fun i => V i || i == p.toNat
theorem vAdd_self (V : Nat → Bool) (p : Int) : vAdd V p p.toNat = true := by unfold vAdd; simp
theorem vAdd_ne {V : Nat → Bool} {p : Int} {i : Nat} (h : i ≠ p.toNat) : vAdd V p i = V i := by unfold vAdd; simp [h]
theorem vAdd_false {V : Nat → Bool} {p : Int} {i : Nat} (h : vAdd V p i = false) : V i = false ∧ i ≠ p.toNat := by
  unfold vAdd at h
  simp at h
  exact h
/-- How many points are not in a set. -/
def cnt (n : Nat) (V : Nat → Bool) : Nat := (List.range n).countP fun i => !V i
theorem countP_le {p q : Nat → Bool} : ∀ {L : List Nat}, (∀ x ∈ L, q x = true → p x = true) → L.countP q ≤ L.countP p
  | [], _ => by simp
  | a :: t, h => by
    have ih := countP_le (p := p) (q := q) (L := t) (fun x hx => h x (List.mem_cons_of_mem _ hx))
    rw [List.countP_cons, List.countP_cons]
    by_cases c : q a = true
    · rw [if_pos c, if_pos (h a List.mem_cons_self c)]
      omega
    · rw [if_neg c]
      omega
theorem countP_lt {p q : Nat → Bool} : ∀ {L : List Nat}, (∀ x ∈ L, q x = true → p x = true) → ∀ a ∈ L, p a = true → q a = false → L.countP q < L.countP p
  | [], _, a, ha, _, _ => by cases ha
  | b :: t, h, a, ha, hp, hq => by
    rw [List.countP_cons, List.countP_cons]
    rcases List.mem_cons.1 ha with rfl | ha
    · have := countP_le (p := p) (q := q) (L := t) (fun x hx => h x (List.mem_cons_of_mem _ hx))
      rw [if_pos hp, if_neg (by rw [hq]; decide)]
      omega
    · have ih := countP_lt (p := p) (q := q) (L := t) (fun x hx => h x (List.mem_cons_of_mem _ hx)) a ha hp hq
      by_cases c : q b = true
      · rw [if_pos c, if_pos (h b List.mem_cons_self c)]
        omega
      · rw [if_neg c]
        omega
theorem cnt_add {n : Nat} {V : Nat → Bool} {p : Int} (h0 : 0 ≤ p) (h1 : p < n) (h : V p.toNat = false) : cnt n (vAdd V p) < cnt n V := by
  refine countP_lt (fun x _ hx => ?_) p.toNat (List.mem_range.2 (by omega)) (by simp [h]) (by simp [vAdd_self])
  have := vAdd_false (by simpa using hx)
  simp [this.1]
theorem cnt_le (n : Nat) (V : Nat → Bool) : cnt n V ≤ n := by
  have := List.countP_le_length (p := fun i => !V i) (l := List.range n)
  rw [List.length_range] at this
  exact this
/-! ### reach -/
/-- What a scan from p on says. -/
def ScanOut (n : Nat) (l : List S34) (far : List Int) (dest : Int) (V : Nat → Bool) (O : Int) (g : Bool) (o : Nat → Bool) (p : Int) (r : Int × Bool) : Prop :=
  ∃ (O' : Int) (g' : Bool) (o' : Nat → Bool), r = (O', g') ∧ SetOf O' o' ∧ (∀ i, o' i = true → i < n ∧ Rv l far dest V (i : Int)) ∧ (∀ i, o i = true → o' i = true) ∧
      ((g' = true ∧ (g = true ∨ cnt n o' < cnt n o)) ∨ (g' = false ∧ g = false ∧ O' = O ∧ ∀ q : Int, p ≤ q → q < n → 0 ≤ rd far q → o q.toNat = false → V q.toNat = false → ∀ e ∈ l, e.f0 = q → X.tight O far q e = false))
theorem scan_says {n : Nat} {l : List S34} {far : List Int} {dest U : Int} {V : Nat → Bool} (hn : n ≤ 64) (hg : Gr n l) (hU : SetOf U V) : ∀ (d : Nat) (p : Int) (O : Int) (g : Bool) (o : Nat → Bool), 0 ≤ p → p + d = n → SetOf O o → (∀ i, o i = true → i < n ∧ Rv l far dest V (i : Int)) →
    ScanOut n l far dest V O g o p (scanFrom (rowsOf n l) far U d p (O, g))
  | 0, p, O, g, o, h0, h1, hO, ho => by
    refine ⟨O, g, o, rfl, hO, ho, fun i h => h, ?_⟩
    cases g with
    | true => exact .inl ⟨rfl, .inl rfl⟩
    | false => exact .inr ⟨rfl, rfl, rfl, fun q hq1 hq2 => by omega⟩
  | d + 1, p, O, g, o, h0, h1, hO, ho => by
    have hp1 : p < n := by omega
    have hrow : (rowsOf n l).getD p.toNat [] = l.filter fun e => decide (e.f0 = p) := by rw [rowsOf_get n l (by omega), Int.toNat_of_nonneg h0]
    have skip : scan1 (rowsOf n l) far U p (O, g) = (O, g) → (0 ≤ rd far p → o p.toNat = false → V p.toNat = false → ∀ e ∈ l, e.f0 = p → X.tight O far p e = false) → ScanOut n l far dest V O g o p (scanFrom (rowsOf n l) far U (d + 1) p (O, g)) := fun hs hq => by
      obtain ⟨O', g', o', e1, e2, e3, e4, e5⟩ := scan_says hn hg hU d (p + 1) O g o (by omega) (by omega) hO ho
      refine ⟨O', g', o', (by show scanFrom _ _ _ d (p + 1) (scan1 (rowsOf n l) far U p (O, g)) = _; rw [hs]; exact e1), e2, e3, e4, ?_⟩
      rcases e5 with h | ⟨a, b, c, h⟩
      · exact .inl h
      · refine .inr ⟨a, b, c, fun q hq1 hq2 hf ho' hv e he hef => ?_⟩
        by_cases cq : q = p
        · subst cq
          exact hq hf ho' hv e he hef
        · exact h q (by omega) hq2 hf ho' hv e he hef
    by_cases cg : gate far O U p = true
    · refine skip (by unfold scan1; rw [if_pos cg]) (fun a b c => ?_)
      exfalso
      unfold gate at cg
      rw [hO.has h0 (by omega), hU.has h0 (by omega), b, c] at cg
      simp at cg
      omega
    · by_cases ca : ((rowsOf n l).getD p.toNat []).any (X.tight O far p) = true
      · have hs : scan1 (rowsOf n l) far U p (O, g) = (sPut O p, true) := by
          unfold scan1
          rw [if_neg cg]
          simp only
          rw [if_pos ca]
        have hgate := cg
        unfold gate at hgate
        rw [hO.has h0 (by omega), hU.has h0 (by omega)] at hgate
        simp at hgate
        obtain ⟨⟨hf, hop⟩, hvp⟩ := hgate
        have ho2 : ∀ i, vAdd o p i = true → i < n ∧ Rv l far dest V (i : Int) := fun i hi => by
          by_cases ci : i = p.toNat
          · subst ci
            refine ⟨by omega, ?_⟩
            obtain ⟨e, he, ht⟩ := List.any_eq_true.1 ca
            rw [hrow] at he
            simp only [List.mem_filter, decide_eq_true_eq] at he
            obtain ⟨⟨a0, a1⟩, b0, b1, _⟩ := hg e he.1
            unfold X.tight at ht
            rw [hO.has b0 (by omega)] at ht
            simp at ht
            have h2 := (ho _ ht.1).2
            rw [Int.toNat_of_nonneg b0] at h2
            rw [Int.toNat_of_nonneg h0, ← he.2]
            exact .step e he.1 (by rw [he.2]; exact hf) (by rw [he.2]; exact ht.2) (by rw [he.2]; exact hvp) h2
          · rw [vAdd_ne ci] at hi
            exact ho i hi
        obtain ⟨O', g', o', e1, e2, e3, e4, e5⟩ := scan_says hn hg hU d (p + 1) (sPut O p) true (vAdd o p) (by omega) (by omega) (hO.put h0 (by omega)) ho2
        refine ⟨O', g', o', (by show scanFrom _ _ _ d (p + 1) (scan1 (rowsOf n l) far U p (O, g)) = _; rw [hs]; exact e1), e2, e3, fun i hi => e4 i (by unfold vAdd; rw [hi]; rfl), ?_⟩
        rcases e5 with ⟨a, _⟩ | ⟨_, b, _⟩
        · refine .inl ⟨a, .inr (Nat.lt_of_le_of_lt ?_ (cnt_add h0 hp1 hop))⟩
          exact countP_le fun x _ hx => by
            cases hh : vAdd o p x with
            | false => rfl
            | true => rw [e4 x hh] at hx; cases hx
        · cases b
      · refine skip (by unfold scan1; rw [if_neg cg]; simp only; rw [if_neg ca]) (fun a b c e he hef => ?_)
        cases ht : X.tight O far p e with
        | false => rfl
        | true =>
          exact absurd (List.any_eq_true.2 ⟨e, by rw [hrow]; simp only [List.mem_filter, decide_eq_true_eq]; exact ⟨he, hef⟩, ht⟩) ca
theorem reach_says {n : Nat} {l : List S34} {far : List Int} {dest U : Int} {V : Nat → Bool} (hn : n ≤ 64) (hg : Gr n l) (hU : SetOf U V) (hd0 : 0 ≤ dest) (hd1 : dest < n) : ∀ (c : Nat) (O : Int) (o : Nat → Bool), cnt n o < c → SetOf O o → (∀ i, o i = true → i < n ∧ Rv l far dest V (i : Int)) → o dest.toNat = true →
    ∃ (k : Nat) (R : Int) (f : Nat → Bool), reachL n (rowsOf n l) far U k O true = some R ∧ SetOf R f ∧ ∀ p : Int, 0 ≤ p → p < n → (f p.toNat = true ↔ Rv l far dest V p)
  | 0, O, o, hc, _, _, _ => by omega
  | c + 1, O, o, hc, hO, ho, hdst => by
    obtain ⟨O', g', o', e1, e2, e3, e4, e5⟩ := scan_says (far := far) (dest := dest) hn hg hU n 0 O false o (by decide) (by omega) hO ho
    rcases e5 with ⟨rfl, h⟩ | ⟨rfl, _, rfl, h⟩
    · have hlt : cnt n o' < cnt n o := by
        rcases h with h | h
        · cases h
        · exact h
      obtain ⟨k, R, f, r1, r2, r3⟩ := reach_says hn hg hU hd0 hd1 c O' o' (by omega) e2 e3 (e4 _ hdst)
      refine ⟨k + 1, R, f, ?_, r2, r3⟩
      rw [reachL, if_pos rfl, e1]
      exact r1
    · refine ⟨2, O', o, ?_, hO, fun p h0 h1 => ⟨fun hp => ?_, fun hp => ?_⟩⟩
      · rw [reachL, if_pos rfl, e1]
        rfl
      · have := (ho _ hp).2
        rwa [Int.toNat_of_nonneg h0] at this
      · have key : ∀ q, Rv l far dest V q → o q.toNat = true := by
          intro q hq
          induction hq with
          | base => exact hdst
          | step e he hf ht hv _ ih =>
            cases hoq : o e.f0.toNat with
            | true => rfl
            | false =>
              obtain ⟨⟨a0, a1⟩, b0, b1, _⟩ := hg e he
              have := h e.f0 a0 a1 hf hoq hv e he rfl
              unfold X.tight at this
              rw [hO.has b0 (by omega), ih, ht] at this
              simp at this
        exact key p hp
/-- What reach says. -/
theorem reach_ev {n : Nat} {l : List S34} {far : List Int} {dest U : Int} {V : Nat → Bool} (hn : n ≤ 64) (hg : Gr n l) (hU : SetOf U V) (hd0 : 0 ≤ dest) (hd1 : dest < n) : ∃ (R : Int) (f : Nat → Bool), Ev (fun k => reachL n (rowsOf n l) far U k (sPut 0 dest) true) R ∧ SetOf R f ∧ ∀ p : Int, 0 ≤ p → p < n → (f p.toNat = true ↔ Rv l far dest V p) := by
  obtain ⟨k, R, f, r1, r2, r3⟩ := reach_says (far := far) hn hg hU hd0 hd1 (cnt n (fun i => false || i == dest.toNat) + 1) (sPut 0 dest) _ (by omega) (SetOf.zero.put hd0 (by omega)) (fun i hi => by
    simp at hi
    subst hi
    refine ⟨by omega, ?_⟩
    rw [Int.toNat_of_nonneg hd0]
    exact .base) (by simp)
  exact ⟨R, f, Ev.up (fun k r h => reachL_up k _ _ r h) r1, r2, r3⟩
/-! ### the next point -/
theorem next_says {n : Nat} {far : List Int} {good at_ : Int} : ∀ (row : List S34) (m : Int), m ≤ n → (∀ e ∈ row, e.f1 < n) →
    nextF n far good at_ row m ≤ m ∧ (∀ e ∈ row, X.tight good far at_ e = true → nextF n far good at_ row m ≤ e.f1) ∧ (nextF n far good at_ row m = m ∨ ∃ e ∈ row, X.tight good far at_ e = true ∧ nextF n far good at_ row m = e.f1)
  | [], m, _, _ => ⟨Int.le_refl _, fun e he => (by cases he), .inl rfl⟩
  | a :: t, m, hm, hr => by
    have e0 : nextF n far good at_ (a :: t) m = nextF n far good at_ t (if X.tight good far at_ a = true then (if a.f1 < m then a.f1 else m) else m) := rfl
    have ha := hr a List.mem_cons_self
    have ht : ∀ e ∈ t, e.f1 < (n : Int) := fun e he => hr e (List.mem_cons_of_mem _ he)
    rw [e0]
    by_cases c : X.tight good far at_ a = true
    · rw [if_pos c]
      by_cases c2 : a.f1 < m
      · rw [if_pos c2]
        obtain ⟨i1, i2, i3⟩ := next_says (far := far) (good := good) (at_ := at_) t a.f1 (by omega) ht
        refine ⟨by omega, fun e he hte => ?_, ?_⟩
        · rcases List.mem_cons.1 he with rfl | he
          · exact i1
          · exact i2 e he hte
        · rcases i3 with h | ⟨e, he, h1, h2⟩
          · exact .inr ⟨a, List.mem_cons_self, c, h⟩
          · exact .inr ⟨e, List.mem_cons_of_mem _ he, h1, h2⟩
      · rw [if_neg c2]
        obtain ⟨i1, i2, i3⟩ := next_says (far := far) (good := good) (at_ := at_) t m hm ht
        refine ⟨i1, fun e he hte => ?_, ?_⟩
        · rcases List.mem_cons.1 he with rfl | he
          · omega
          · exact i2 e he hte
        · rcases i3 with h | ⟨e, he, h1, h2⟩
          · exact .inl h
          · exact .inr ⟨e, List.mem_cons_of_mem _ he, h1, h2⟩
    · rw [if_neg c]
      obtain ⟨i1, i2, i3⟩ := next_says (far := far) (good := good) (at_ := at_) t m hm ht
      refine ⟨i1, fun e he hte => ?_, ?_⟩
      · rcases List.mem_cons.1 he with rfl | he
        · exact absurd hte c
        · exact i2 e he hte
      · rcases i3 with h | ⟨e, he, h1, h2⟩
        · exact .inl h
        · exact .inr ⟨e, List.mem_cons_of_mem _ he, h1, h2⟩
/-! ### the way -/
/-- The points behind a point on the way that is told. -/
inductive Gp (n : Nat) (l : List S34) (far : List Int) (dest : Int) : (Nat → Bool) → Int → List Int → Prop
  | done (V : Nat → Bool) : Gp n l far dest V dest []
  | step (V : Nat → Bool) (at_ m : Int) (rest : List Int) (e : S34) : at_ ≠ dest → e ∈ l → e.f0 = at_ → e.f1 = m → rd far m = rd far at_ + e.f2 → 0 ≤ rd far at_ → V at_.toNat = false → 0 ≤ at_ → at_ < n → 0 ≤ m → m < n → Rv l far dest (vAdd V at_) m →
      (∀ x ∈ l, x.f0 = at_ → rd far x.f1 = rd far at_ + x.f2 → Rv l far dest (vAdd V at_) x.f1 → m ≤ x.f1) → Gp n l far dest (vAdd V at_) m rest → Gp n l far dest V at_ (m :: rest)
theorem Rv.on {l : List S34} {far : List Int} {dest at_ : Int} {V : Nat → Bool} : ∀ {p : Int}, Rv l far dest V p → (∀ e ∈ l, 0 ≤ e.f0) → 0 ≤ at_ → Rv l far dest (vAdd V at_) p ∨ ∃ e ∈ l, e.f0 = at_ ∧ rd far e.f1 = rd far at_ + e.f2 ∧ 0 ≤ rd far at_ ∧ Rv l far dest (vAdd V at_) e.f1 := by
  intro p h hl h0
  induction h with
  | base => exact .inl .base
  | step e he hf ht hv _ ih =>
    rcases ih with ih | ih
    · by_cases c : e.f0 = at_
      · refine .inr ⟨e, he, c, ?_, ?_, ih⟩
        · rw [← c]; exact ht
        · rw [← c]; exact hf
      · refine .inl (.step e he hf ht ?_ ih)
        have := hl e he
        rw [vAdd_ne (by omega)]
        exact hv
    · exact .inr ih
theorem Rv.not_in {l : List S34} {far : List Int} {dest : Int} {V : Nat → Bool} {p : Int} (h : Rv l far dest V p) (hd : V dest.toNat = false) : V p.toNat = false := by
  cases h with
  | base => exact hd
  | step e _ _ _ hv _ => exact hv
theorem way_says {n : Nat} {l : List S34} {far : List Int} {dest : Int} (hn : n ≤ 64) (hg : Gr n l) (hd0 : 0 ≤ dest) (hd1 : dest < n) : ∀ (c : Nat) (at_ U : Int) (V : Nat → Bool) (out : List Int), cnt n V ≤ c → out.length + c ≤ 100 → SetOf U V → V dest.toNat = false → 0 ≤ at_ → at_ < n → Rv l far dest V at_ →
    ∃ rest, Gp n l far dest V at_ rest ∧ rest.length ≤ c ∧ Ev (fun k => wayL n (rowsOf n l) far dest k at_ U out) (out ++ rest)
  | 0, at_, U, V, out, hc, hl, hU, hdv, h0, h1, hr => by
    have hv := hr.not_in hdv
    have := cnt_add h0 h1 hv
    omega
  | c + 1, at_, U, V, out, hc, hl, hU, hdv, h0, h1, hr => by
    have hv := hr.not_in hdv
    by_cases ce : at_ = dest
    · subst ce
      exact ⟨[], .done V, by simp, Ev.step (fun k => by rw [wayL, if_pos rfl]) (Ev.eq (by rw [List.append_nil]))⟩
    · have hU' : SetOf (sPut U at_) (vAdd V at_) := hU.put h0 (by omega)
      have hlt := cnt_add h0 h1 hv
      have hdv' : vAdd V at_ dest.toNat = false := by rw [vAdd_ne (by omega)]; exact hdv
      obtain ⟨R, f, hR, hS, hf⟩ := reach_ev (far := far) hn hg hU' hd0 hd1
      have hrow : (rowsOf n l).getD at_.toNat [] = l.filter fun e => decide (e.f0 = at_) := by rw [rowsOf_get n l (by omega), Int.toNat_of_nonneg h0]
      have hti : ∀ x ∈ l, (X.tight R far at_ x = true ↔ rd far x.f1 = rd far at_ + x.f2 ∧ Rv l far dest (vAdd V at_) x.f1) := fun x hx => by
        obtain ⟨_, b0, b1, _⟩ := hg x hx
        unfold X.tight
        rw [hS.has b0 (by omega), Bool.and_eq_true, beq_iff_eq, hf _ b0 b1]
        exact And.comm
      obtain ⟨e, he, he0, het, hep, her⟩ : ∃ e ∈ l, e.f0 = at_ ∧ rd far e.f1 = rd far at_ + e.f2 ∧ 0 ≤ rd far at_ ∧ Rv l far dest (vAdd V at_) e.f1 := by
        rcases hr.on (fun e he => (hg e he).1.1) h0 with hh | hh
        · have := hh.not_in hdv'
          rw [vAdd_self] at this
          cases this
        · exact hh
      obtain ⟨n1, n2, n3⟩ := next_says (n := n) (far := far) (good := R) (at_ := at_) ((rowsOf n l).getD at_.toNat []) (n : Int) (Int.le_refl _) (fun x hx => by
        rw [hrow] at hx
        exact (hg x (List.mem_filter.1 hx).1).2.2.1)
      generalize hm : nextF n far R at_ ((rowsOf n l).getD at_.toNat []) (n : Int) = m at n1 n2 n3
      have hmem : ∀ x ∈ l, x.f0 = at_ → x ∈ (rowsOf n l).getD at_.toNat [] := fun x hx hx0 => by
        rw [hrow]
        simp only [List.mem_filter, decide_eq_true_eq]
        exact ⟨hx, hx0⟩
      have hmn : m < n := by
        have := n2 e (hmem e he he0) ((hti e he).2 ⟨het, her⟩)
        have := (hg e he).2.2.1
        omega
      obtain ⟨y, hy, hyt, hym⟩ := n3.resolve_left (by omega)
      rw [hrow] at hy
      simp only [List.mem_filter, decide_eq_true_eq] at hy
      obtain ⟨hyl, hy0⟩ := hy
      have hy2 := (hti y hyl).1 hyt
      rw [← hym] at hy2
      have hm0 : 0 ≤ m := by rw [hym]; exact (hg y hyl).2.1
      obtain ⟨rest, g1, g2, g3⟩ := way_says hn hg hd0 hd1 c m (sPut U at_) (vAdd V at_) (out ++ [m]) (by omega) (by simp; omega) hU' hdv' hm0 hmn hy2.2
      refine ⟨m :: rest, .step V at_ m rest y ce hyl hy0 hym.symm hy2.1 hep hv h0 h1 hm0 hmn hy2.2 (fun x hx hx0 hxt hxr => n2 x (hmem x hx hx0) ((hti x hx).2 ⟨hxt, hxr⟩)) g1, by simp; omega, Ev.step (fun k => by rw [wayL]) (Ev.iten ce (Ev.bind hR ?_))⟩
      rw [hm]
      refine Ev.iten (by omega) (Ev.itep (by omega) ?_)
      rw [List.append_assoc, List.singleton_append] at g3
      exact g3
theorem walk_rv {n : Nat} {l : List S34} {far : List Int} {dest : Int} (hl : ∀ e ∈ l, 0 ≤ e.f2) (hD : FitsE l (rd far)) : ∀ {P : List (Int × Int)} {v : Int}, WkE l P → P.head? = some (v, rd far v) → Rv l far dest (fun _ => false) v → Rv l far dest (fun _ => false) 0
  | [], _, h, _, _ => h.elim
  | [p], v, h, hh, hr => by
    have e : p = (0, 0) := h
    subst e
    have : v = 0 := by simpa using congrArg Prod.fst (Option.some.inj hh).symm
    rwa [this] at hr
  | p :: q :: t, v, h, hh, hr => by
    obtain rfl : p = (v, rd far v) := Option.some.inj hh
    have hle := Wk.le hl hD h.2 q List.mem_cons_self
    obtain ⟨⟨e, he, h1, h2, h3⟩, hw⟩ := h
    have h1 : e.f0 = q.1 := h1
    have h2 : e.f1 = v := h2
    have h3 : rd far v = q.2 + e.f2 := h3
    have hf := hD.2 e he (by show 0 ≤ rd far e.f0; rw [h1]; omega)
    have hf : rd far e.f0 + e.f2 ≤ rd far e.f1 := hf
    rw [h1, h2] at hf
    have e2 : q.2 = rd far q.1 := by omega
    refine walk_rv (n := n) hl hD hw (v := q.1) (by rw [List.head?_cons]; exact congrArg some (Prod.ext rfl e2)) ?_
    rw [← h1]
    exact .step e he (by rw [h1]; omega) (by rw [h1, h2]; omega) rfl (by rw [h2]; exact hr)
/-- What Way says, where the search found lengths. -/
theorem Way_found {n : Int} {l : List S34} {dest : Int} {fe : List Int × List Int} (h : rightF n l = true) (he : Ev (fun k => solvedF k n l) (some fe, 0)) (hf : Found n.toNat l fe) :
    (Ev (fun k => paths_Way.f k n l dest) [] ∧ (dest < 0 ∨ n ≤ dest ∨ rd fe.1 dest < 0)) ∨ (0 ≤ dest ∧ dest < n ∧ 0 ≤ rd fe.1 dest ∧ ∃ rest, Ev (fun k => paths_Way.f k n l dest) (0 :: rest) ∧ Gp n.toNat l fe.1 dest (fun _ => false) 0 rest ∧ rest.length ≤ 64) := by
  obtain ⟨h1, h2, h3, hg⟩ := right_gr h
  have hl : ∀ e ∈ l, 0 ≤ e.f2 := fun e he => (hg e he).2.2.2.1
  have go : ∀ r, Ev (fun k => if dest < 0 then some [] else if n ≤ dest then some [] else if rd fe.1 dest < 0 then some [] else wayL n.toNat (rowsOf n.toNat l) fe.1 dest k 0 0 [0]) r → Ev (fun k => paths_Way.f k n l dest) r := fun r hr => Ev.bind he hr
  by_cases c1 : dest < 0
  · exact .inl ⟨go _ (Ev.itep c1 (Ev.eq rfl)), .inl c1⟩
  by_cases c2 : n ≤ dest
  · exact .inl ⟨go _ (Ev.iten c1 (Ev.itep c2 (Ev.eq rfl))), .inr (.inl c2)⟩
  by_cases c3 : rd fe.1 dest < 0
  · exact .inl ⟨go _ (Ev.iten c1 (Ev.iten c2 (Ev.itep c3 (Ev.eq rfl)))), .inr (.inr c3)⟩
  have hd : 0 ≤ rd fe.1 dest := by omega
  obtain ⟨P, hP, hh, _⟩ := (hf.2.2 dest (by omega) (by omega)).resolve_left (by omega)
  have hr : Rv l fe.1 dest (fun _ => false) 0 := walk_rv (n := n.toNat) hl hf.1 hP hh .base
  have hcl := cnt_le n.toNat (fun _ => false)
  obtain ⟨rest, g1, g2, g3⟩ := way_says (far := fe.1) (dest := dest) h2 hg (by omega) (by omega) n.toNat 0 0 (fun _ => false) [0] hcl (by simp; omega) SetOf.zero rfl (by decide) (by omega) hr
  exact .inr ⟨by omega, by omega, hd, rest, go _ (Ev.iten c1 (Ev.iten c2 (Ev.iten c3 g3))), g1, by omega⟩
end Go.Proofs.YtcdddmaibchjjaaDoor.Pure
