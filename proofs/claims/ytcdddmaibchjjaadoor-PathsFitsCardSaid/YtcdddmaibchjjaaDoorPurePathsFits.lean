/- The pure law PathsFits: each edge from a point that is reached is fitted, point 0 is at 0, and a way of just that length leads to each point that is reached, no point twice.
   Conditions: none beyond the kinds of the arguments. -/
import Derived.Test.YtcdddmaibchjjaaDoorP14h
namespace Go.Proofs.YtcdddmaibchjjaaDoor.Pure
set_option linter.unusedVariables false
open Go.RowKit Go.Proofs.YtcdddmaibchjjaaDoor.X Go.Proofs.YtcdddmaibchjjaaDoorW.PrintWords Go.Proofs.YtcdddmaibchjjaaDoorW.PrintLast Go.Proofs.YtcdddmaibchjjaaDoorW.PrintMore
theorem fits_l0 {n : Nat} {l : List S34} {far : List Int} {r : Bool} (hl : l.length ≤ 60) (hg : Gr n l) (hlen : far.length = n) (hD : FitsE l (rd far)) (hhi : ∀ v : Int, 0 ≤ v → v < n → rd far v ≤ 1000000) (h : Ev (fun k => carrefourlaw14_PathsFits.l1 k (n : Int) l far 0) r) : ∀ (c i : Nat), i + c = l.length → Ev (fun k => carrefourlaw14_PathsFits.l0 k (n : Int) l far (i : Int)) r
  | 0, i, hi => Ev.step (fun k => by rw [carrefourlaw14_PathsFits.l0]) (Ev.iten (by omega) h)
  | c + 1, i, hi => by
    obtain ⟨e1, e2⟩ := drop_at (l := l) (i := i) (by omega)
    have ew : wrap64 ((i : Int) + 1) = ((i + 1 : Nat) : Int) := by rw [w64 (by omega) (by omega)]; rfl
    have hm : l[i] ∈ l := List.getElem_mem _
    have ih := fits_l0 hl hg hlen hD hhi h c (i + 1) (by omega)
    refine Ev.step (fun k => by rw [carrefourlaw14_PathsFits.l0, e1, ew]) ?_
    generalize l[i] = e at *
    obtain ⟨⟨a0, a1⟩, b0, b1, z0, z1⟩ := hg e hm
    refine Ev.itep (by omega) (Ev.itep (by omega) (Ev.itep a0 (Ev.itep (by rw [hlen]; exact a1) ?_)))
    by_cases c1 : rd far e.f0 ≥ 0
    · have hf := hD.2 e hm c1
      have hf : rd far e.f0 + e.f2 ≤ rd far e.f1 := hf
      have := hhi _ a0 a1
      refine Ev.itep c1 (Ev.itep b0 (Ev.itep (by rw [hlen]; exact b1) (Ev.iten ?_ ih)))
      rw [w64 (by omega) (by omega)]
      omega
    · exact Ev.iten c1 ih
theorem fits_l1 {n : Nat} {l : List S34} {fe : List Int × List Int} (hl : l.length ≤ 60) (h : rightF (n : Int) l = true) (he : Ev (fun k => solvedF k (n : Int) l) (some fe, 0)) (hf : Found n l fe) (hn1 : 1 ≤ n) (hn : n ≤ 64) (hg : Gr n l) (hhi : ∀ v : Int, 0 ≤ v → v < n → rd fe.1 v ≤ 1000000) : ∀ (c p : Nat), p + c = n → Ev (fun k => carrefourlaw14_PathsFits.l1 k (n : Int) l fe.1 (p : Int)) true
  | 0, p, hp => Ev.step (fun k => by rw [carrefourlaw14_PathsFits.l1]) (Ev.iten (by omega) (Ev.bind awake_ev (Ev.eq rfl)))
  | c + 1, p, hp => by
    have ew : wrap64 ((p : Int) + 1) = ((p + 1 : Nat) : Int) := by rw [w64 (by omega) (by omega)]; rfl
    have ih := fits_l1 hl h he hf hn1 hn hg hhi c (p + 1) (by omega)
    have hlen := hf.2.1.1
    have hw := Way_found (dest := (p : Int)) h he (by rw [Int.toNat_natCast]; exact hf)
    rw [Int.toNat_natCast] at hw
    have q0 : (0 : Int) ≤ (p : Int) := by omega
    have q1 : (p : Int) < (n : Int) := by omega
    have q2 : (p : Int) < (fe.1.length : Int) := by omega
    rcases hw with ⟨w1, w2⟩ | ⟨d0, d1, dz, rest, w1, w2, w3⟩
    · have q3 : rd fe.1 (p : Int) < 0 := by omega
      exact Ev.step (fun k => by rw [carrefourlaw14_PathsFits.l1, ew]) (Ev.itep q1 (Ev.bind w1 (Ev.itep q0 (Ev.itep q2 (Ev.itep q3 (Ev.itep rfl ih))))))
    · have hok := (w2.ok d0 d1 dz rfl).1
      have hlw : (0 :: rest).length ≤ 100 := by simp; omega
      have h0 := far_zero hn1 hg hf
      have hL := length_l0 hl hg hf.1 hhi hok hlw ((0 :: rest).length - 1) 1 (Nat.le_refl _) (by simp; omega)
      rw [show rd fe.1 (rd (0 :: rest) ((1 - 1 : Nat) : Int)) = 0 from h0] at hL
      have el : wrap64 (((0 :: rest).length : Int) - 1) = ((rest.length : Nat) : Int) := by
        rw [List.length_cons, w64 (by omega) (by omega)]
        omega
      have elast : rd (0 :: rest) ((rest.length : Nat) : Int) = (p : Int) := by
        have e := hok.last
        rw [List.getLast?_eq_getElem?, show (0 :: rest).length - 1 = rest.length from by simp, List.getElem?_eq_getElem (by simp)] at e
        rw [rd_get (by simp), Option.some.inj e]
      have q3 : ¬ rd fe.1 (p : Int) < 0 := by omega
      have q4 : ¬ (((0 :: rest).length : Nat) : Int) = 0 := by rw [List.length_cons]; omega
      have q5 : (0 : Int) < (((0 :: rest).length : Nat) : Int) := by rw [List.length_cons]; omega
      refine Ev.step (fun k => by rw [carrefourlaw14_PathsFits.l1, ew]) (Ev.itep q1 (Ev.bind w1 (Ev.itep q0 (Ev.itep q2 (Ev.iten q3 (Ev.iten q4 (Ev.itep q5 (Ev.itep rfl ?_))))))))
      rw [el, elast]
      exact Ev.itep (by omega) (Ev.itep (by rw [List.length_cons]; omega) (Ev.itep rfl (Ev.bind (g := fun k => carrefourlaw14_length.f k l (0 :: rest)) hL (Ev.itep rfl ih))))
theorem PathsFits (n : Int) (l : List S34) {P0 P1 : Prop} (h0 : P0) (h1 : P1) : ∃ k, carrefourlaw14_PathsFits.f k n l = some true := by
  suffices h : Ev (fun k => carrefourlaw14_PathsFits.f k n l) true by obtain ⟨K, h⟩ := h; exact ⟨K, h K (Nat.le_refl _)⟩
  obtain ⟨t, ht, hf⟩ := few_ev n l
  refine Ev.bind (Ev.eq ht) ?_
  by_cases c : t = true
  · obtain ⟨hl, _⟩ := hf c
    refine Ev.itep c ?_
    cases h : rightF n l with
    | false => exact Ev.bind (Longest_bad h) (Ev.iten (by decide) (Ev.itep rfl (Ev.bind awake_ev (Ev.eq rfl))))
    | true =>
      obtain ⟨g1, g2, g3, hg⟩ := right_gr h
      obtain ⟨m, rfl⟩ := Int.eq_ofNat_of_zero_le (show 0 ≤ n by omega)
      rw [Int.toNat_natCast] at g1 g2 hg
      rcases solved_ev h with ⟨fe, a, b⟩ | ⟨a, b⟩
      · rw [Int.toNat_natCast] at b
        have hlen := b.2.1.1
        have hhi : ∀ v : Int, 0 ≤ v → v < m → rd fe.1 v ≤ 1000000 := fun v v0 v1 => by have := b.2.1.2.2 v v0 v1; omega
        refine Ev.bind (g := fun k => paths_Longest.f k (m : Int) l) (a := (fe.1, 0)) (Ev.bind a (Ev.eq rfl)) (Ev.itep rfl (Ev.itep (show (fe.1.length : Int) = (m : Int) by omega) (Ev.itep (show (0 : Int) < (fe.1.length : Int) by omega) ?_)))
        refine Ev.step (f := fun k => carrefourlaw14_PathsFits.l0 k (m : Int) l fe.1 ((0 : Nat) : Int)) (fun k => ?_) (fits_l0 hl hg hlen b.1 hhi (fits_l1 hl h a b g1 g2 hg hhi m 0 (by omega)) l.length 0 (by omega))
        simp only [carrefourlaw14_PathsFits.j0]
        rw [far_zero g1 hg b, if_neg (by decide)]
        rfl
      · exact Ev.bind (g := fun k => paths_Longest.f k (m : Int) l) (a := (([] : List Int), 140)) (Ev.bind a (Ev.eq rfl)) (Ev.iten (by decide) (Ev.itep rfl (Ev.bind awake_ev (Ev.eq rfl))))
  · exact Ev.iten c (Ev.eq rfl)
end Go.Proofs.YtcdddmaibchjjaaDoor.Pure
