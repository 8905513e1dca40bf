/- What is right of the way that Way tells: its edges are tight, no point twice, its length is its end's. Plain lists.
   Conditions: as each theorem's head says. -/
import Derived.Test.YtcdddmaibchjjaaDoorP14i
import Derived.Test.YtcdddmaibchjjaaDoorP14f
namespace Go.Proofs.YtcdddmaibchjjaaDoor.Pure
set_option linter.unusedVariables false
open Go.RowKit Go.Proofs.YtcdddmaibchjjaaDoor.X Go.Proofs.YtcdddmaibchjjaaDoorW.PrintWords Go.Proofs.YtcdddmaibchjjaaDoorW.PrintLast Go.Proofs.YtcdddmaibchjjaaDoorW.PrintMore
/-- A tight edge from a to b. -/
def Tg (l : List S34) (far : List Int) (a b : Int) : Prop := ∃ e ∈ l, e.f0 = a ∧ e.f1 = b ∧ rd far b = rd far a + e.f2
def Ch (l : List S34) (far : List Int) : List Int → Prop
  | [] => True
  | [_] => True
  | a :: b :: t => Tg l far a b ∧ Ch l far (b :: t)
theorem Ch.get {l : List S34} {far : List Int} : ∀ {w : List Int}, Ch l far w → ∀ i : Nat, i + 1 < w.length → Tg l far (rd w (i : Int)) (rd w ((i + 1 : Nat) : Int))
  | [], _, i, hi => by simp at hi
  | [a], _, i, hi => by simp at hi
  | a :: b :: t, h, 0, _ => h.1
  | a :: b :: t, h, i + 1, hi => Ch.get h.2 i (by simpa using hi)
structure WayOK (n : Nat) (l : List S34) (far : List Int) (dest : Int) (w : List Int) : Prop where
  chain : Ch l far w
  nodup : w.Nodup
  last : w.getLast? = some dest
  pts : ∀ x ∈ w, 0 ≤ x ∧ x < n ∧ 0 ≤ rd far x
theorem Gp.ok {n : Nat} {l : List S34} {far : List Int} {dest : Int} (hd0 : 0 ≤ dest) (hd1 : dest < n) (hdf : 0 ≤ rd far dest) {V : Nat → Bool} {at_ : Int} {rest : List Int} (h : Gp n l far dest V at_ rest) : V dest.toNat = false → WayOK n l far dest (at_ :: rest) ∧ ∀ x ∈ at_ :: rest, V x.toNat = false := by
  induction h with
  | done V =>
    intro hv
    refine ⟨⟨trivial, by simp, rfl, fun x hx => ?_⟩, fun x hx => ?_⟩ <;> (rw [List.mem_singleton] at hx; subst hx)
    · exact ⟨hd0, hd1, hdf⟩
    · exact hv
  | step V at_ m rest e hne he e0 e1 e2 hp hv b0 b1 m0 m1 hr hmin _ ih =>
    intro hdv
    obtain ⟨⟨c1, c2, c3, c4⟩, c5⟩ := ih (by rw [vAdd_ne (by omega)]; exact hdv)
    refine ⟨⟨⟨⟨e, he, e0, e1, e2⟩, c1⟩, ?_, ?_, fun x hx => ?_⟩, fun x hx => ?_⟩
    · rw [List.nodup_cons]
      refine ⟨fun hm => ?_, c2⟩
      have := (vAdd_false (c5 _ hm)).2
      exact this rfl
    · rw [List.getLast?_cons_cons]; exact c3
    · rcases List.mem_cons.1 hx with rfl | hx
      · exact ⟨b0, b1, hp⟩
      · exact c4 x hx
    · rcases List.mem_cons.1 hx with rfl | hx
      · exact hv
      · exact (vAdd_false (c5 x hx)).1
theorem wk_last {l : List S34} : ∀ {P : List (Int × Int)}, WkE l P → ((0 : Int), (0 : Int)) ∈ P
  | [], h => h.elim
  | [p], h => by rw [show p = (0, 0) from h]; exact List.mem_singleton.2 rfl
  | p :: q :: t, h => List.mem_cons_of_mem _ (wk_last h.2)
theorem far_zero {n : Nat} {l : List S34} {fe : List Int × List Int} (hn : 1 ≤ n) (hg : Gr n l) (h : Found n l fe) : rd fe.1 0 = 0 := by
  have hl0 : ∀ e ∈ l, 0 ≤ e.f2 := fun e he => (hg e he).2.2.2.1
  have h0 : 0 ≤ rd fe.1 0 := h.1.1
  obtain ⟨P, hP, hh, _⟩ := (h.2.2 0 (by decide) (by omega)).resolve_left (by omega)
  cases P with
  | nil => exact hP.elim
  | cons p t =>
    obtain rfl : p = (0, rd fe.1 0) := Option.some.inj hh
    cases t with
    | nil =>
      have : ((0 : Int), rd fe.1 0) = (0, 0) := hP
      exact congrArg Prod.snd this
    | cons q t =>
      have hm := wk_last hP.2
      have := Wk.seg hl0 h.1 hP _ hm
      simp only at this
      omega
/-! ### length -/
def bst (a b : Int) : List S34 → Int → Int
  | [], m => m
  | e :: t, m => bst a b t (if e.f0 = a then (if e.f1 = b then mx m e.f2 else m) else m)
theorem bst_le {a b D : Int} : ∀ (l : List S34) (m : Int), m ≤ D → (∀ e ∈ l, e.f0 = a → e.f1 = b → e.f2 ≤ D) → bst a b l m ≤ D
  | [], m, h, _ => h
  | e :: t, m, h, hl => by
    refine bst_le t _ ?_ (fun x hx => hl x (List.mem_cons_of_mem _ hx))
    have := hl e List.mem_cons_self
    unfold mx
    split
    · rename_i c
      split
      · rename_i c2
        have := this c c2
        omega
      · exact h
    · exact h
theorem bst_ge {a b : Int} : ∀ (l : List S34) (m : Int), m ≤ bst a b l m ∧ ∀ e ∈ l, e.f0 = a → e.f1 = b → e.f2 ≤ bst a b l m
  | [], m => ⟨Int.le_refl _, fun e he => (by cases he)⟩
  | x :: t, m => by
    have e0 : bst a b (x :: t) m = bst a b t (if x.f0 = a then (if x.f1 = b then mx m x.f2 else m) else m) := rfl
    obtain ⟨h1, h2⟩ := bst_ge (a := a) (b := b) t (if x.f0 = a then (if x.f1 = b then mx m x.f2 else m) else m)
    rw [e0]
    refine ⟨Int.le_trans ?_ h1, fun e he ha hb => ?_⟩
    · unfold mx
      split
      · split <;> omega
      · omega
    · rcases List.mem_cons.1 he with rfl | he
      · refine Int.le_trans ?_ h1
        rw [if_pos ha, if_pos hb]
        unfold mx
        omega
      · exact h2 e he ha hb
theorem bst_eq {l : List S34} {far : List Int} {a b : Int} (hD : FitsE l (rd far)) (hl : ∀ e ∈ l, 0 ≤ e.f2) (ha : 0 ≤ rd far a) (h : Tg l far a b) : bst a b l (-1) = rd far b - rd far a := by
  obtain ⟨e, he, e0, e1, e2⟩ := h
  have h1 := (bst_ge (a := a) (b := b) l (-1)).2 e he e0 e1
  have hz := hl e he
  have h2 := bst_le (a := a) (b := b) (D := rd far b - rd far a) l (-1) (by omega) (fun x hx x0 x1 => by
    have := hD.2 x hx (by show 0 ≤ rd far x.f0; rw [x0]; exact ha)
    have : rd far x.f0 + x.f2 ≤ rd far x.f1 := this
    rw [x0, x1] at this
    omega)
  omega
theorem length_l1 {l : List S34} {w : List Int} {s r : Int} {i : Nat} (hl : l.length ≤ 60) (hw : w.length ≤ 100) (h1 : 1 ≤ i) (hi : i < w.length) : ∀ (c j : Nat) (m : Int), j + c = l.length → Ev (fun k => carrefourlaw14_length.l2 k l w s (i : Int) (bst (rd w ((i - 1 : Nat) : Int)) (rd w (i : Int)) (l.drop j) m) 0) r → Ev (fun k => carrefourlaw14_length.l1 k l w s (i : Int) m (j : Int)) r
  | 0, j, m, hj, h => by
    rw [List.drop_of_length_le (by omega), bst] at h
    exact Ev.step (fun k => by rw [carrefourlaw14_length.l1]) (Ev.iten (by omega) h)
  | c + 1, j, m, hj, h => by
    obtain ⟨e1, e2⟩ := drop_at (l := l) (i := j) (by omega)
    have ew : wrap64 ((j : Int) + 1) = ((j + 1 : Nat) : Int) := by rw [w64 (by omega) (by omega)]; rfl
    have ei : wrap64 ((i : Int) - 1) = ((i - 1 : Nat) : Int) := by rw [w64 (by omega) (by omega)]; omega
    have ih := fun m' => length_l1 (r := r) (s := s) hl hw h1 hi c (j + 1) m' (by omega)
    rw [e2, bst] at h
    refine Ev.step (fun k => by rw [carrefourlaw14_length.l1, e1, ew, ei]) (Ev.itep (by omega) (Ev.itep (by omega) (Ev.itep (by omega) (Ev.itep (by omega) ?_))))
    by_cases c1 : l[j].f0 = rd w ((i - 1 : Nat) : Int)
    · rw [if_pos c1] at h
      refine Ev.itep c1 (Ev.itep (by omega) (Ev.itep (by omega) ?_))
      by_cases c2 : l[j].f1 = rd w (i : Int)
      · rw [if_pos c2] at h
        exact Ev.itep c2 (ih _ h)
      · rw [if_neg c2] at h
        exact Ev.iten c2 (ih _ h)
    · rw [if_neg c1] at h
      exact Ev.iten c1 (ih _ h)
theorem length_l2 {l : List S34} {w : List Int} {s r m : Int} {i : Nat} (hw : w.length ≤ 100) (h1 : 1 ≤ i) (hi : i < w.length) (hne : ∀ j : Nat, j < i → rd w (j : Int) ≠ rd w (i : Int)) (hm : 0 ≤ m) (h : Ev (fun k => carrefourlaw14_length.l0 k l w (wrap64 (s + m)) ((i + 1 : Nat) : Int)) r) : ∀ (c j : Nat), j + c = i → Ev (fun k => carrefourlaw14_length.l2 k l w s (i : Int) m (j : Int)) r
  | 0, j, hj => by
    have ew : wrap64 ((i : Int) + 1) = ((i + 1 : Nat) : Int) := by rw [w64 (by omega) (by omega)]; rfl
    exact Ev.step (fun k => by rw [carrefourlaw14_length.l2, ew]) (Ev.iten (by omega) (Ev.iten (by omega) h))
  | c + 1, j, hj => by
    have ew : wrap64 ((j : Int) + 1) = ((j + 1 : Nat) : Int) := by rw [w64 (by omega) (by omega)]; rfl
    exact Ev.step (fun k => by rw [carrefourlaw14_length.l2, ew]) (Ev.itep (by omega) (Ev.itep (by omega) (Ev.itep (by omega) (Ev.itep (by omega) (Ev.itep (by omega) (Ev.iten (hne j (by omega)) (length_l2 hw h1 hi hne hm h c (j + 1) (by omega))))))))
theorem length_l0 {n : Nat} {l : List S34} {far w : List Int} {dest : Int} (hl : l.length ≤ 60) (hg : Gr n l) (hD : FitsE l (rd far)) (hhi : ∀ v : Int, 0 ≤ v → v < n → rd far v ≤ 1000000) (hok : WayOK n l far dest w) (hw : w.length ≤ 100) : ∀ (c i : Nat), 1 ≤ i → i + c = w.length → Ev (fun k => carrefourlaw14_length.l0 k l w (rd far (rd w ((i - 1 : Nat) : Int))) (i : Int)) (rd far dest)
  | 0, i, h1, hi => by
    refine Ev.step (fun k => by rw [carrefourlaw14_length.l0]) (Ev.iten (by omega) (Ev.eq ?_))
    have e := hok.last
    rw [List.getLast?_eq_getElem?, show w.length - 1 = i - 1 from by omega, List.getElem?_eq_getElem (by omega)] at e
    rw [rd_get (by omega), Option.some.inj e]
  | c + 1, i, h1, hi => by
    have hi2 : i < w.length := by omega
    have ht := hok.chain.get (i - 1) (by omega)
    rw [show i - 1 + 1 = i from by omega] at ht
    have p1 := hok.pts _ (List.getElem_mem (show i - 1 < w.length by omega))
    have p2 := hok.pts _ (List.getElem_mem hi2)
    rw [← rd_get (show i - 1 < w.length by omega)] at p1
    rw [← rd_get hi2] at p2
    have hb := bst_eq hD (fun e he => (hg e he).2.2.2.1) p1.2.2 ht
    have hm : 0 ≤ rd far (rd w (i : Int)) - rd far (rd w ((i - 1 : Nat) : Int)) := by
      obtain ⟨e, he, _, _, e2⟩ := ht
      have := (hg e he).2.2.2.1
      omega
    have b1 := hhi _ p1.1 p1.2.1
    have b2 := hhi _ p2.1 p2.2.1
    have ih := length_l0 hl hg hD hhi hok hw c (i + 1) (by omega) (by omega)
    rw [show i + 1 - 1 = i from by omega] at ih
    refine Ev.step (fun k => by rw [carrefourlaw14_length.l0]) (Ev.itep (by omega) ?_)
    refine length_l1 (s := rd far (rd w ((i - 1 : Nat) : Int))) hl hw h1 hi2 l.length 0 (-1) (by omega) ?_
    rw [List.drop_zero, hb]
    refine length_l2 (s := rd far (rd w ((i - 1 : Nat) : Int))) hw h1 hi2 (fun j hj => ?_) hm ?_ i 0 (by omega)
    · rw [rd_get (by omega), rd_get hi2]
      exact List.pairwise_iff_getElem.1 hok.nodup j i (by omega) hi2 hj
    · rw [w64 (by omega) (by omega)]
      rw [show rd far (rd w ((i - 1 : Nat) : Int)) + (rd far (rd w (i : Int)) - rd far (rd w ((i - 1 : Nat) : Int))) = rd far (rd w (i : Int)) from by omega]
      exact ih
end Go.Proofs.YtcdddmaibchjjaaDoor.Pure
