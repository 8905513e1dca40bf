/- The pure law PathsMore: an edge more makes no way shorter, and an edge that is fitted already changes nothing.
   Conditions: none beyond the kinds of the arguments. -/
import Derived.Test.YtcdddmaibchjjaaDoorP14i
namespace Go.Proofs.YtcdddmaibchjjaaDoor.Pure
set_option linter.unusedVariables false
open Go.RowKit Go.Proofs.YtcdddmaibchjjaaDoor.X Go.Proofs.YtcdddmaibchjjaaDoorW.PrintWords Go.Proofs.YtcdddmaibchjjaaDoorW.PrintLast Go.Proofs.YtcdddmaibchjjaaDoorW.PrintMore
def sameTo (a b : List Int) (i : Nat) : Bool := (List.range i).all fun v => rd a (v : Int) == rd b (v : Int)
theorem sameTo_succ (a b : List Int) (i : Nat) : sameTo a b (i + 1) = (sameTo a b i && (rd a (i : Int) == rd b (i : Int))) := by
  unfold sameTo
  rw [List.range_succ, List.all_append]
  simp
theorem sameTo_iff {a b : List Int} {n : Nat} : sameTo a b n = true ↔ ∀ v : Int, 0 ≤ v → v < n → rd a v = rd b v := by
  unfold sameTo
  rw [List.all_eq_true]
  constructor
  · intro h v v0 v1
    obtain ⟨i, rfl⟩ := Int.eq_ofNat_of_zero_le v0
    exact beq_iff_eq.1 (h i (List.mem_range.2 (by omega)))
  · intro h i hi
    have := List.mem_range.1 hi
    exact beq_iff_eq.2 (h (i : Int) (by omega) (by omega))
theorem more_l0 {n : Nat} {a b : List Int} {x0 x1 x2 : Int} (hn : n ≤ 64) (ha : a.length = n) (hb : b.length = n) (hle : ∀ v : Int, 0 ≤ v → v < n → rd a v ≤ rd b v) (p0 : 0 ≤ x0) (p1 : x0 < n) (q0 : 0 ≤ x1) (q1 : x1 < n) (hw : wrap64 (rd a x0 + x2) = rd a x0 + x2) (hneg : rd a x0 < 0 → sameTo a b n = true) (hpos : 0 ≤ rd a x0 → sameTo a b n = decide (rd a x1 ≥ rd a x0 + x2)) : ∀ (c i : Nat), i + c = n → Ev (fun k => carrefourlaw14_PathsMore.l0 k (n : Int) a b (sameTo a b i) (i : Int) x0 x1 x2) true
  | 0, i, hi => by
    obtain rfl : i = n := by clear hw hneg hpos; omega
    have p2 : x0 < (a.length : Int) := by clear hw hneg hpos; omega
    have q2 : x1 < (a.length : Int) := by clear hw hneg hpos; omega
    refine Ev.step (fun k => by rw [carrefourlaw14_PathsMore.l0]) (Ev.iten (by clear hw hneg hpos; omega) (Ev.itep p0 (Ev.itep p2 ?_)))
    by_cases c : rd a x0 < 0
    · exact Ev.itep c (Ev.itep (by rw [hneg c]; rfl) (Ev.bind awake_ev (Ev.eq rfl)))
    · refine Ev.iten c (Ev.itep q0 (Ev.itep q2 (Ev.itep ?_ (Ev.bind awake_ev (Ev.eq rfl)))))
      rw [hw, hpos (by clear hw hpos hneg; omega)]
      exact beq_self_eq_true _
  | c + 1, i, hi => by
    have ih := more_l0 hn ha hb hle p0 p1 q0 q1 hw hneg hpos c (i + 1) (by clear hw hneg hpos; omega)
    have ew : wrap64 ((i : Int) + 1) = ((i + 1 : Nat) : Int) := by clear hw hneg hpos ih; rw [w64 (by omega) (by omega)]; rfl
    have hl := hle (i : Int) (by clear hw hneg hpos ew ih; omega) (by clear hw hneg hpos ew ih; omega)
    have r0 : (i : Int) < (n : Int) := by clear hw hneg hpos ew ih; omega
    have r1 : (0 : Int) ≤ (i : Int) := by clear hw hneg hpos ew ih; omega
    have r2 : (i : Int) < (b.length : Int) := by clear hw hneg hpos ew ih; omega
    have r3 : (i : Int) < (a.length : Int) := by clear hw hneg hpos ew ih; omega
    have r4 : ¬ rd b (i : Int) < rd a (i : Int) := by clear hw hneg hpos ew ih; omega
    refine Ev.step (fun k => by rw [carrefourlaw14_PathsMore.l0, ew]) (Ev.itep r0 (Ev.itep r1 (Ev.itep r2 (Ev.itep r3 (Ev.iten r4 ?_)))))
    rw [sameTo_succ] at ih
    cases hs : sameTo a b i with
    | true =>
      rw [hs, Bool.true_and] at ih
      exact Ev.itep rfl ih
    | false =>
      rw [hs, Bool.false_and] at ih
      exact Ev.iten (by decide) ih
theorem long_some (n : Int) (l : List S34) : ∃ r, Ev (fun k => paths_Longest.f k n l) r := by
  cases h : rightF n l with
  | false => exact ⟨_, Longest_bad h⟩
  | true => rcases Longest_ev h with ⟨fe, a, _⟩ | ⟨a, _⟩ <;> exact ⟨_, a⟩
theorem right_less {n : Int} {l : List S34} {x : S34} (h : rightF n (l ++ [x]) = true) : rightF n l = true := by
  unfold rightF at h ⊢
  simp only [Bool.and_eq_true, decide_eq_true_eq, Bool.not_eq_true', List.any_append, Bool.or_eq_false_iff, List.length_append, List.length_singleton] at h ⊢
  obtain ⟨⟨⟨h1, h2⟩, h3⟩, h4, _⟩ := h
  exact ⟨⟨⟨h1, h2⟩, by omega⟩, h4⟩
theorem PathsMore (n : Int) (l : List S34) (x0 x1 x2 : Int) {P0 P1 P2 P3 P4 : Prop} (h0 : P0) (h1 : P1) (h2 : P2) (h3 : P3) (h4 : P4) : ∃ k, carrefourlaw14_PathsMore.f k n l x0 x1 x2 = some true := by
  suffices h : Ev (fun k => carrefourlaw14_PathsMore.f k n l x0 x1 x2) true by obtain ⟨K, h⟩ := h; exact ⟨K, h K (Nat.le_refl _)⟩
  obtain ⟨t, ht, hf⟩ := few_ev n l
  refine Ev.bind (Ev.eq ht) ?_
  by_cases c : t = true
  · obtain ⟨hl, _⟩ := hf c
    refine Ev.itep c ?_
    have bad : ∀ (ra rb : List Int × Int), Ev (fun k => paths_Longest.f k n l) ra → Ev (fun k => paths_Longest.f k n (l ++ [⟨x0, x1, x2⟩])) rb → rb.2 ≠ 0 → Ev (fun k => (paths_Longest.f k n l).bind fun bt123 => ((some (([] : List (S34)) : List (S34))).bind fun y127 => (if y127.length + l.length < 5864062014805 then ((some (y127 ++ l : List (S34))).bind fun y130 => ((some (([(⟨x0, x1, x2⟩ : S34)] : List (S34)) : List (S34))).bind fun y133 => (if y130.length + y133.length < 5864062014805 then ((paths_Longest.f k n (y130 ++ y133)).bind fun bt139 => (if bt123.2 = 0 then (carrefourlaw14_PathsMore.j0 k n bt123.1 bt123.2 bt139.1 bt139.2 (bt139.2 != 0) x0 x1 x2) else (carrefourlaw14_PathsMore.j0 k n bt123.1 bt123.2 bt139.1 bt139.2 true x0 x1 x2))) else (none)))) else (none)))) true := fun ra rb hra hrb hne => by
      have j : Ev (fun k => carrefourlaw14_PathsMore.j0 k n ra.1 ra.2 rb.1 rb.2 true x0 x1 x2) true := Ev.step (fun k => by rw [carrefourlaw14_PathsMore.j0]) (Ev.itep rfl (Ev.iten hne (Ev.bind awake_ev (Ev.eq rfl))))
      refine Ev.bind hra (Ev.bind (Ev.eq rfl) (Ev.itep (by simp; omega) (Ev.bind (Ev.eq rfl) (Ev.bind (Ev.eq rfl) (Ev.itep (by simp; omega) (Ev.bind hrb ?_))))))
      by_cases c2 : ra.2 = 0
      · refine Ev.itep c2 ?_
        rw [show (rb.2 != 0) = true from bne_iff_ne.2 hne]
        exact j
      · exact Ev.iten c2 j
    cases h : rightF n (l ++ [⟨x0, x1, x2⟩]) with
    | false =>
      obtain ⟨ra, hra⟩ := long_some n l
      exact bad ra _ hra (Longest_bad h) (by decide)
    | true =>
      rcases Longest_ev h with ⟨fb, hb, gb⟩ | ⟨hb, gb⟩
      · have hr := right_less h
        obtain ⟨g1, g2, g3, hg⟩ := right_gr hr
        obtain ⟨_, _, _, hgE⟩ := right_gr h
        obtain ⟨m, rfl⟩ := Int.eq_ofNat_of_zero_le (show 0 ≤ n by omega)
        rw [Int.toNat_natCast] at g1 g2 hg hgE gb
        have sub : ∀ e ∈ l, e ∈ l ++ [(⟨x0, x1, x2⟩ : S34)] := fun e he => List.mem_append_left _ he
        have hx : (⟨x0, x1, x2⟩ : S34) ∈ l ++ [(⟨x0, x1, x2⟩ : S34)] := List.mem_append_right _ (List.mem_singleton.2 rfl)
        obtain ⟨⟨a0, a1⟩, b0, b1, z0, z1⟩ := hgE _ hx
        simp only at a0 a1 b0 b1 z0 z1
        have fitl : FitsE l (rd fb.1) := ⟨gb.1.1, fun e he => gb.1.2 e (sub e he)⟩
        rcases Longest_ev hr with ⟨fa, ha, ga⟩ | ⟨ha, ga⟩
        · rw [Int.toNat_natCast] at ga
          have la := ga.2.1.1
          have lb := gb.2.1.1
          have hz : ∀ e ∈ l ++ [(⟨x0, x1, x2⟩ : S34)], 0 ≤ e.f2 := fun e he => (hgE e he).2.2.2.1
          have hle : ∀ v : Int, 0 ≤ v → v < m → rd fa.1 v ≤ rd fb.1 v := fun v v0 v1 => by
            rcases ga.met v v0 v1 with e | ⟨P, hP, hh⟩
            · rw [e]; exact (gb.2.1.2.2 v v0 v1).1
            · exact (Wk.le (fun e he => hz e (sub e he)) fitl hP (_, _) (List.mem_of_head? hh)).2
          have hback : FitsE (l ++ [⟨x0, x1, x2⟩]) (rd fa.1) → sameTo fa.1 fb.1 m = true := fun hF => by
            refine sameTo_iff.2 fun v v0 v1 => ?_
            have := hle v v0 v1
            rcases gb.met v v0 v1 with e | ⟨P, hP, hh⟩
            · have := (ga.2.1.2.2 v v0 v1).1
              omega
            · have := (Wk.le hz hF hP (_, _) (List.mem_of_head? hh)).2
              simp only at this
              omega
          have hfit : (0 ≤ rd fa.1 x0 → rd fa.1 x0 + x2 ≤ rd fa.1 x1) → FitsE (l ++ [⟨x0, x1, x2⟩]) (rd fa.1) := fun hh => by
            refine ⟨ga.1.1, fun e he h0 => ?_⟩
            rcases List.mem_append.1 he with he | he
            · exact ga.1.2 e he h0
            · rw [List.mem_singleton.1 he] at h0 ⊢
              exact hh h0
          have hbx : 0 ≤ rd fb.1 x0 → rd fb.1 x0 + x2 ≤ rd fb.1 x1 := fun h0 => gb.1.2 _ hx h0
          have bda := ga.2.1.2.2 x0 a0 a1
          have hL := more_l0 (x2 := x2) g2 la lb hle a0 a1 b0 b1 (w64 (by omega) (by omega)) (fun hn => hback (hfit fun h0 => by omega)) (fun h0 => by
            by_cases cf : rd fa.1 x1 ≥ rd fa.1 x0 + x2
            · rw [decide_eq_true cf]
              exact hback (hfit fun _ => cf)
            · rw [decide_eq_false cf]
              cases hs : sameTo fa.1 fb.1 m with
              | false => rfl
              | true =>
                have e0 := sameTo_iff.1 hs x0 a0 a1
                have e1 := sameTo_iff.1 hs x1 b0 b1
                have := hbx (by omega)
                omega) m 0 (by omega)
          have s0 : sameTo fa.1 fb.1 0 = true := rfl
          rw [s0] at hL
          refine Ev.bind ha (Ev.bind (Ev.eq rfl) (Ev.itep (by simp; omega) (Ev.bind (Ev.eq rfl) (Ev.bind (Ev.eq rfl) (Ev.itep (by simp; omega) (Ev.bind hb (Ev.itep rfl ?_)))))))
          refine Ev.step (fun k => by rw [carrefourlaw14_PathsMore.j0]) (Ev.iten (by simp) (Ev.itep (show (fa.1.length : Int) = (m : Int) by omega) ?_))
          refine Ev.step (f := fun k => carrefourlaw14_PathsMore.l0 k (m : Int) fa.1 fb.1 true ((0 : Nat) : Int) x0 x1 x2) (fun k => ?_) hL
          rw [show (((fb.1.length : Nat) : Int) != (m : Int)) = false from bne_eq_false_iff_eq.2 (by omega), carrefourlaw14_PathsMore.j1, if_neg (by decide)]
          rfl
        · exact absurd fitl (ga _)
      · obtain ⟨ra, hra⟩ := long_some n l
        exact bad ra _ hra hb (by decide)
  · exact Ev.iten c (Ev.eq rfl)
end Go.Proofs.YtcdddmaibchjjaaDoor.Pure
