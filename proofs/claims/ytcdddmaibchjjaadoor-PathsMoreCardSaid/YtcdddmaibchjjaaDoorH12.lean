import Derived.Test.YtcdddmaibchjjaaDoorProg
import Derived.Below
import Derived.Deep.Draws
import Derived.Deep.AppendLies
import Derived.Maps.AppendAt
import Derived.OwnWalk
import Derived.Laws.BytesArg
import Derived.Laws.MakeOwn
import Derived.Laws.OwnMore
import Derived.Deep.OwnRows
import Derived.Tactics
import Derived.Lib.ConvBytes
import Derived.Laws.Slices
import Derived.WalkKit
import Derived.KernelRfl
import Derived.RowKit3
import Derived.Deep.LoopGhost
import Derived.Deep.QuietTactic
import Derived.BigQuiet
import Derived.WideLaws
import Derived.Deep.DeepCutAuto
import Derived.Deep.CutBlock
import Derived.Deep.RegionHeld3
import Derived.Laws.Rows
import Derived.Lib.AppendStr
import Derived.ArgAppend
import Derived.Laws.IdiomCopy
import Derived.OrdersHeld
import Derived.Laws.BitsLemmas
import Derived.RowKit
import Derived.Test.YtcdddmaibchjjaaDoorXBase
import Derived.Test.YtcdddmaibchjjaaDoorV
import Derived.Test.YtcdddmaibchjjaaDoorX0
import Derived.RegionTactic
import Derived.ChangeAlike
import Derived.Test.YtcdddmaibchjjaaDoorH1
import Derived.Test.YtcdddmaibchjjaaDoorH2
import Derived.Test.YtcdddmaibchjjaaDoorH3
import Derived.Test.YtcdddmaibchjjaaDoorH5
import Derived.Test.YtcdddmaibchjjaaDoorH6
import Derived.Test.YtcdddmaibchjjaaDoorH7
import Derived.Test.YtcdddmaibchjjaaDoorH8
import Derived.Test.YtcdddmaibchjjaaDoorH9
import Derived.Test.YtcdddmaibchjjaaDoorH10
import Derived.Test.YtcdddmaibchjjaaDoorH11
import Derived.Test.YtcdddmaibchjjaaDoorHT
import Derived.Laws.Bits64b
import Derived.Lib.TrailingZeros
namespace Go.Proofs.YtcdddmaibchjjaaDoor.X
open Go.RowKit Go.Proofs.YtcdddmaibchjjaaDoorW.PrintWords Go.Proofs.YtcdddmaibchjjaaDoorW.PrintLast Go.Proofs.YtcdddmaibchjjaaDoorW.PrintMore
set_option linter.unusedVariables false
set_option linter.unusedSimpArgs false
set_option maxHeartbeats 1000000
set_option maxRecDepth 100000
/-! ### Way -/
attribute [local go_sem] max2_int min2_int max_two min_two max_three min_three max_four min_four   -- for this text's walks alone
theorem Srch.grown {b b2 : Nat} {w w1 : World} {gs gf gd ge n : Nat} {S : Int} {vs : List Value} {rows : List (List S34)} {far edges : List Int} (h : Srch b w gs gf gd ge n S vs rows far edges) {v : Value} {out : List Int} (hR : Kd.R (Kd.int .i64) 3 w b2 (fun g => g ≠ ge) v out) (hg : w.grownBy w1 v.ownBlock) : Srch b w1 gs gf gd ge n S vs rows far edges := by
  have ne : ∀ {g t : Nat} {cs : Array Value}, w.heap[g]? = some (.cells cs t (0, 0)) → (3 : Nat) ≠ t → some g ≠ v.ownBlock := fun hb ht => Kd.R_ne hR hb ht
  have nge : some ge ≠ v.ownBlock := fun he => hR.1 ge he.symm rfl
  obtain ⟨_, ho⟩ := Kd.R_own hR
  refine { h with hs := blk_grown h.hs hg (ne h.hs (by decide)), hf := blk_grown h.hf hg (ne h.hf (by decide)), hd := blk_grown h.hd hg (ne h.hd (by decide)), he := blk_grown h.he hg nge, hr := fun p hp => ?_ }
  refine Kd.R_mono (Kd.R_grown (Kd.R_bound (h.hr p hp)) hg (fun k hk he => ?_)) (fun _ hk => hk.1)
  obtain ⟨_, _, _, q, hq, cs, hc⟩ := hk
  obtain ⟨cs2, hc2⟩ := own_typed ho k he.symm
  rw [hc] at hc2
  injection hc2 with hc2
  injection hc2 with _ hc2
  rcases List.mem_cons.1 hq with rfl | hq
  · exact absurd hc2 (by decide)
  · cases hq
theorem one_R {w : World} {g b : Nat} {ok : Nat → Prop} (h : w.heap[g]? = some (.cells #[.int .i64 0] 3 (0, 0))) (hb : b ≤ g) (hok : ok g) : Kd.R (Kd.int .i64) 3 w b ok (.slice (some ⟨g, 0, none⟩) 1 1) [0] := by
  refine Kd.R_of_own (enc := Value.int .i64) (h1 := fun _ => rfl) ?_ (fun k hk => ?_)
  rotate_left
  · have e : g = k := by simpa [Value.ownBlock] using hk
    subst e
    exact hok
  exact ⟨by simp [encs], .inr ⟨g, 1, _, rfl, hb, h, Nat.le_refl _, by unfold maxLen; omega, by simp, by simp [encs]⟩⟩
def nextF (n : Nat) (far : List Int) (good at_ : Int) (row : List S34) (m : Int) : Int := row.foldl (fun m e => if tight good far at_ e = true then (if e.f1 < m then e.f1 else m) else m) m
def wayL (n : Nat) (rows : List (List S34)) (far : List Int) (dest : Int) : Nat → Int → Int → List Int → Option (List Int)
  | 0, _, _, _ => none
  | k + 1, at_, U, out => if at_ = dest then some out else
      (reachL n rows far (sPut U at_) k (sPut 0 dest) true).bind fun good =>
        if nextF n far good at_ (rows.getD at_.toNat []) n = n then some [] else if out.length < 1000 then wayL n rows far dest k (nextF n far good at_ (rows.getD at_.toNat []) n) (sPut U at_) (out ++ [nextF n far good at_ (rows.getD at_.toNat []) n]) else none
def paths_Way.f (k : Nat) (n : Int) (l : List S34) (dest : Int) : Option (List Int) := (solvedF k n l).bind fun r => match r.1 with
  | none => some []
  | some fe => if dest < 0 then some [] else if n ≤ dest then some [] else if rd fe.1 dest < 0 then some [] else wayL n.toNat (rowsOf n.toNat l) fe.1 dest k 0 0 [0]
theorem nextF_drop {n : Nat} {far : List Int} {good at_ : Int} {row : List S34} {x : Int} (h0 : 0 ≤ x) (h1 : x < row.length) (m : Int) : nextF n far good at_ (row.drop x.toNat) m = nextF n far good at_ (row.drop (x + 1).toNat) (if tight good far at_ (rd_T34 row x) = true then (if (rd_T34 row x).f1 < m then (rd_T34 row x).f1 else m) else m) := by
  obtain ⟨i, rfl⟩ := Int.eq_ofNat_of_zero_le h0
  have hi : i < row.length := by omega
  have e : ((i : Int) + 1).toNat = i + 1 := by omega
  have g : rd_T34 row (i : Int) = row[i] := by unfold rd_T34; rw [Int.toNat_natCast, List.getD_eq_getElem?_getD, List.getElem?_eq_getElem hi]; rfl
  rw [e, g, Int.toNat_natCast, List.drop_eq_getElem_cons hi]
  rfl
theorem solved_ok {k : Nat} {n : Int} {l : List S34} {fe : List Int × List Int} {x : Int} (h : solvedF k n l = some (some fe, x)) : (1 ≤ n ∧ n ≤ 64) ∧ l.length ≤ 1000 ∧ ∀ e ∈ l, (0 ≤ e.f0 ∧ e.f0 < n) ∧ 0 ≤ e.f1 ∧ e.f1 < n ∧ 0 ≤ e.f2 ∧ e.f2 ≤ 6000 := by
  unfold solvedF at h
  by_cases c : rightF n l = true
  · exact rightF_says c
  · rw [if_neg c] at h
    simp at h
theorem nextF_le {n : Nat} {far : List Int} {good at_ : Int} : ∀ (row : List S34) (m : Int), (∀ e ∈ row, EOK n e) → 0 ≤ m → m ≤ n → 0 ≤ nextF n far good at_ row m ∧ nextF n far good at_ row m ≤ n
  | [], m, _, h0, h1 => ⟨h0, h1⟩
  | e :: t, m, he, h0, h1 => by
    have e1 := he e List.mem_cons_self
    have ih := fun m h0 h1 => nextF_le (far := far) (good := good) (at_ := at_) t m (fun y hy => he y (List.mem_cons_of_mem _ hy)) h0 h1
    show 0 ≤ nextF n far good at_ t (if tight good far at_ e = true then (if e.f1 < m then e.f1 else m) else m) ∧ nextF n far good at_ t (if tight good far at_ e = true then (if e.f1 < m then e.f1 else m) else m) ≤ n
    apply ih
    · split
      · split
        · exact e1.1
        · exact h0
      · exact h0
    · split
      · split
        · have := e1.2.1; omega
        · exact h1
      · exact h1
set_option maxHeartbeats 8000000 in
theorem paths_Way.calls (k : Nat) (n : Int) (A : Option Addr) (c0 : Nat) (l : List S34) (dest : Int) (r : List Int) (w : World) (hr : Kd.C k34 w A l.length l) (hc : l.length ≤ c0) (h : paths_Way.f k n l dest = some r) (hT : TabOK w) :
    Calls Tryd.prog 12 #[.int .i64 n, .slice A l.length c0, .int .i64 dest] w fun e w' => ∃ v0_ : Value, e = .returned v0_ ∧ Kd.R (Kd.int .i64) 3 w' w.heap.size (fun _ => True) v0_ r ∧ Below w.heap.size w w' := by
  have hu44 := Tryd.underlying44
  have hu34 := Tryd.underlying34
  have HR := Aside0.mk hr
  have GT := Aside0.mk hT
  unfold paths_Way.f at h
  obtain ⟨⟨rr, x⟩, hrr, h⟩ := Option.bind_eq_some_iff.1 h
  have HA := Aside0.mk hrr
  cases rr with
  | none =>
    obtain rfl := Option.some.inj h
    have hx := solved_err hrr
    have x0 : (x == 0) = false := beq_eq_false_iff_ne.mpr (by omega)
    have x1 : (x != 0) = true := bne_iff_ne.mpr (by omega)
    clear hr hc hT hrr hx h
    go_enter Tryd.func12, Tryd.ntmps12
    go_wp2_with (first | (go_at_call 15; refine (paths_solved.calls k n A c0 l _ _ HR.out HA.out GT.out).mono ?_; rintro e w1 ⟨hb, hor⟩; rcases hor with ⟨_, rfl⟩ | ⟨_, _, _, _, _, _, _, hcc, _⟩; rotate_left; (cases hcc); have HB := Aside0.mk hb; clear hb))
    go_ret
    exact ⟨_, rfl, Kd.R_nil _ _ _ _ _, HB.out⟩
  | some fe =>
    obtain ⟨far, edges⟩ := fe
    simp only at h
    have HQ := Aside0.mk (solved_n hrr)
    have HOK := Aside0.mk (solved_ok hrr)
    obtain ⟨m, rfl⟩ := Int.eq_ofNat_of_zero_le (show 0 ≤ n by have := HOK.out.1; omega)
    rw [Int.toNat_natCast] at h HQ
    have HN := Aside0.mk (show 1 ≤ m ∧ m ≤ 64 by have := HOK.out.1; omega)
    clear hr hc hT hrr
    by_cases d0 : dest < 0
    · rw [if_pos d0] at h
      obtain rfl := Option.some.inj h
      have d0b : decide (dest < 0) = true := decide_eq_true d0
      clear d0 h
      go_enter Tryd.func12, Tryd.ntmps12
      go_wp2_with (first | (go_at_call 15; refine (paths_solved.calls k m A c0 l _ _ HR.out HA.out GT.out).mono ?_; rintro e w1 ⟨hb, hor⟩; rcases hor with ⟨hcc, _⟩ | ⟨_, gs, gf, gd, ge, vs, S, hcc, hx, rfl, hbd, hs⟩; (cases hcc); cases hcc; have HB := Aside0.mk hb; clear hb hs hbd hx))
      go_ret
      exact ⟨_, rfl, Kd.R_nil _ _ _ _ _, HB.out⟩
    · rw [if_neg d0] at h
      have d0b : decide (dest < 0) = false := decide_eq_false d0
      by_cases d1 : (m : Int) ≤ dest
      · rw [if_pos d1] at h
        obtain rfl := Option.some.inj h
        have d1b : decide ((m : Int) ≤ dest) = true := decide_eq_true d1
        clear d0 d1 h
        go_enter Tryd.func12, Tryd.ntmps12
        go_wp2_with (first | (go_at_call 15; refine (paths_solved.calls k m A c0 l _ _ HR.out HA.out GT.out).mono ?_; rintro e w1 ⟨hb, hor⟩; rcases hor with ⟨hcc, _⟩ | ⟨_, gs, gf, gd, ge, vs, S, hcc, hx, rfl, hbd, hs⟩; (cases hcc); cases hcc; have HB := Aside0.mk hb; clear hb hs hbd hx))
        go_ret
        exact ⟨_, rfl, Kd.R_nil _ _ _ _ _, HB.out⟩
      · rw [if_neg d1] at h
        have d1b : decide ((m : Int) ≤ dest) = false := decide_eq_false d1
        have HDest := Aside0.mk (show 0 ≤ dest ∧ dest < m by omega)
        have z0 := eq_true HDest.out.1
        have z1 := eq_true HDest.out.2
        obtain ⟨ft, hft⟩ : ∃ y, rd far dest = y := ⟨_, rfl⟩
        rw [hft] at h
        have HFT := Aside0.mk hft
        clear d0 d1 hft
        by_cases d2 : ft < 0
        · rw [if_pos d2] at h
          obtain rfl := Option.some.inj h
          have d2b : decide (ft < 0) = true := decide_eq_true d2
          clear d2 h
          go_enter Tryd.func12, Tryd.ntmps12
          go_wp2_with (first | (go_at_call 15; refine (paths_solved.calls k m A c0 l _ _ HR.out HA.out GT.out).mono ?_; rintro e w1 ⟨hb, hor⟩; rcases hor with ⟨hcc, _⟩ | ⟨_, gs, gf, gd, ge, vs, S, hcc, hx, rfl, hbd, hs⟩; (cases hcc); cases hcc; have HB := Aside0.mk hb; have HS := Aside0.mk hs; clear hb hs hbd hx; have hys := X.k4 (Aside0.mk HS.out.hs); have hyd := HS.out.cd dest HDest.out.1 HDest.out.2; rw [HFT.out] at hyd))
          go_ret
          exact ⟨_, rfl, Kd.R_nil _ _ _ _ _, HB.out⟩
        · rw [if_neg d2] at h
          have d2b : decide (ft < 0) = false := decide_eq_false d2
          have H' := Aside0.mk h
          clear d2 h
          go_enter Tryd.func12, Tryd.ntmps12
          go_upto_region 4 with (first | (go_at_call 15; refine (paths_solved.calls k m A c0 l _ _ HR.out HA.out GT.out).mono ?_; rintro e w1 ⟨hb, hor⟩; rcases hor with ⟨hcc, _⟩ | ⟨_, gs, gf, gd, ge, vs, S, hcc, hx, rfl, hbd, hs⟩; (cases hcc); cases hcc; have HB := Aside0.mk hb; have HS := Aside0.mk hs; have HD := Aside0.mk hbd; clear hb hs hbd hx; have hys := X.k4 (Aside0.mk HS.out.hs); have hyd := HS.out.cd dest HDest.out.1 HDest.out.2; rw [HFT.out] at hyd))
          clear hys hyd d0b d1b d2b
          go_upto_region 6 with (fail)
          obtain ⟨g0, hg0⟩ : ∃ g, g = w1.heap.size := ⟨_, rfl⟩
          obtain ⟨gu, hgu⟩ : ∃ g, g = w1.heap.size + 1 := ⟨_, rfl⟩
          rw [← hgu, ← hg0]
          have HG := Aside0.mk (And.intro hg0 hgu)
          clear hg0 hgu
          have BGE := Aside0.mk (show ge < w1.heap.size from blk_lt HS.out.he)
          have BW1 := Aside0.mk (show w.heap.size ≤ w1.heap.size from HB.out.size)
          refine gen3_ (φ := fun w' => Aside0 (Kd.R (Kd.int .i64) 3 w' w.heap.size (fun g => g ≠ ge) (.slice (some ⟨g0, 0, none⟩) 1 1) [0]) ∧ Aside0 (w'.heap[gu]? = some (.cells #[.int .u64 0] 41 (0, 0))) ∧ Aside0 (Srch w.heap.size w' gs gf gd ge m S vs (rowsOf m l) far edges) ∧ Aside0 (Below w.heap.size w w')) ⟨⟨one_R (by rw [HG.out.1]; repeat (first | exact new_at (by simp; done) | apply blk_alloc)) (by have := BW1.out; have := HG.out; omega) (by have := BGE.out; have := HG.out; omega)⟩, ⟨by rw [HG.out.2]; repeat (first | exact new_at (by simp; done) | apply blk_alloc)⟩, ⟨(HS.out.alloc _).alloc _⟩, ⟨bf HB⟩⟩ ?_
          have GGU := Aside0.mk (show w.heap.size ≤ gu from by have := BW1.out; have := HG.out; omega)
          clear HG BGE BW1 HS HB
          rintro w2 ⟨HO, BU, HS, HB⟩
          go_wp2
          have HE := Aside0.mk (fun (q : Nat) (hq : q < m) => (⟨Nat.le_trans (rows_le m l q l (Nat.le_refl _)) HOK.out.2.1, fun e he => by rw [rowsOf_get m l hq] at he; have := HOK.out.2.2 e (List.mem_filter.1 he).1; exact ⟨by omega, by omega, by omega, by omega⟩⟩ : ((rowsOf m l).getD q []).length ≤ 1000 ∧ ∀ e ∈ (rowsOf m l).getD q [], EOK m e))
          go_loopg [9, 11] k (fun kq v9 v11 w' => ∃ (a U : Int) (out : List Int), v11 = .int .i64 a ∧ Aside0 (wayL m (rowsOf m l) far dest kq a U out = some r) ∧ Aside0 (kq ≤ k) ∧ Aside0 (0 ≤ a ∧ a < m) ∧ Aside0 (Kd.R (Kd.int .i64) 3 w' w.heap.size (fun g => g ≠ ge) v9 out) ∧ Aside0 (w'.heap[gu]? = some (.cells #[.int .u64 U] 41 (0, 0))) ∧ Aside0 (Srch w.heap.size w' gs gf gd ge m S vs (rowsOf m l) far edges) ∧ Aside0 (Below w.heap.size w w'))
          case atStart => exact ⟨0, 0, [0], (aq), H', ⟨Nat.le_refl _⟩, ⟨by have := HN.out; omega⟩, HO, BU, HS, HB⟩
          case round =>
            clear H' HO BU HS HB
            obtain ⟨a, U, out, rfl, HW, HK1, HAt, HO, BU, HS, HB⟩ := hrel
            cases gk with
            | zero => exact absurd HW.out (by simp [wayL])
            | succ k1 =>
              have H := HW.out
              clear HW
              simp only [wayL] at H
              by_cases c : a = dest
              · rw [if_pos c] at H
                obtain rfl := Option.some.inj H
                have cb : (a != dest) = false := bne_eq_false_iff_eq.mpr c
                clear c H
                go_wp2
                go_ret
                exact ⟨_, rfl, Kd.R_mono HO.out (fun _ _ => trivial), bf HB⟩
              · rw [if_neg c] at H
                have cb : (a != dest) = true := bne_iff_ne.mpr c
                obtain ⟨good, hgood, H⟩ := Option.bind_eq_some_iff.1 H
                have HGd := Aside0.mk hgood
                have HH := Aside0.mk H
                clear c H hgood
                have hyu := X.k1 BU
                go_upto_region 9 with (first | (go_at_call 18; refine (paths_set_put.calls gu U a _ (X.k1 BU).1 (X.k1 BU).2 HAt.out.1 (by have := HAt.out; have := HN.out; omega)).mono ?_; rintro e w' ⟨rfl, rfl⟩))
                refine gen3_ (φ := fun w' => Aside0 (Kd.R (Kd.int .i64) 3 w' w.heap.size (fun g => g ≠ ge) u9 out) ∧ Aside0 (w'.heap[gu]? = some (.cells #[.int .u64 (sPut U a)] 41 (0, 0))) ∧ Aside0 (Srch w.heap.size w' gs gf gd ge m S vs (rowsOf m l) far edges) ∧ Aside0 (Below w.heap.size w w')) ⟨⟨Kd.R_drew (Kd.R_set HO.out BU.out (fun q hq => by rcases List.mem_cons.1 hq with rfl | hq; decide; cases hq) 0 _)⟩, ⟨blk_drew (blk_set BU.out 0 _)⟩, ⟨(HS.out.far_ BU.out (blk_ne BU.out HS.out.hs (by decide)) (blk_ne BU.out HS.out.hf (by decide)) (blk_ne BU.out HS.out.hd (by decide)) (blk_ne BU.out HS.out.he (by decide)) (by decide) _ _).drew⟩, ⟨below_drew1 (below_set HB.out GGU.out)⟩⟩ ?_
                clear hyu cb HO BU HS HB
                rintro w4 ⟨HO, BU, HS, HB⟩
                have hyu := X.k1 BU
                go_upto_region 11 with (first | (go_at_call 19; refine (paths_reach.calls w.heap.size m gs gf gd ge S (sPut U a) dest vs (rowsOf m l) far edges k1 good _ HN.out HS.out HD.out HE.out HDest.out HGd.out).mono ?_; rintro e w5 ⟨rfl, hb⟩; replace HO := Aside0.mk (Kd.R_below HO.out hb); replace BU := bb BU hb; replace HS := Aside0.mk (HS.out.below hb); replace HB := bs HB hb; clear hb))
                obtain ⟨gg, hgg⟩ : ∃ g, g = w5.heap.size := ⟨_, rfl⟩
                rw [← hgg]
                have HGg := Aside0.mk hgg
                clear hgg
                refine gen3_ (φ := fun w' => Aside0 (w'.heap[gg]? = some (.cells #[.int .u64 good] 41 (0, 0))) ∧ Aside0 (Kd.R (Kd.int .i64) 3 w' w.heap.size (fun g => g ≠ ge) u9 out) ∧ Aside0 (w'.heap[gu]? = some (.cells #[.int .u64 (sPut U a)] 41 (0, 0))) ∧ Aside0 (Srch w.heap.size w' gs gf gd ge m S vs (rowsOf m l) far edges) ∧ Aside0 (Below w.heap.size w w')) ⟨⟨by rw [HGg.out]; exact blk_new _ _⟩, ⟨Kd.R_alloc HO.out _⟩, ⟨blk_alloc BU.out _⟩, ⟨HS.out.alloc _⟩, ⟨bf HB⟩⟩ ?_
                clear hyu HGg HO BU HS HB
                rintro w6 ⟨BG, HO, BU, HS, HB⟩
                obtain ⟨row, hrow⟩ : ∃ y, (rowsOf m l).getD a.toNat [] = y := ⟨_, rfl⟩
                have hrr := HS.out.hr a.toNat (by have := HAt.out; omega)
                rw [hrow] at hrr
                obtain ⟨A2, cA, ev⟩ := Kd.R_slice hrr
                have HCr := Aside0.mk (fun (w' : World) (h : Srch w.heap.size w' gs gf gd ge m S vs (rowsOf m l) far edges) => (by
                  have h2 := h.hr a.toNat (by have := HAt.out; omega)
                  rw [hrow, ev] at h2
                  exact (Kd.R_reads' h2).2.2 : Kd.C k34 w' A2 row.length row))
                have HE2 := HE.out a.toNat (by have := HAt.out; omega)
                rw [hrow] at HE2
                replace HE2 := Aside0.mk HE2
                have hyf := HS.out.cf a HAt.out.1 HAt.out.2
                rw [ev] at hyf
                have hys := X.k4 (Aside0.mk HS.out.hs)
                have a0 := eq_true HAt.out.1
                have a1 := eq_true HAt.out.2
                have H := HH.out
                rw [hrow] at H
                obtain ⟨nx, hnx⟩ : ∃ y, nextF m far good a row m = y := ⟨_, rfl⟩
                rw [hnx] at H
                have hnl := nextF_le (far := far) (good := good) (at_ := a) row (m : Int) HE2.out.2 (by omega) (Int.le_refl _)
                rw [hnx] at hnl
                have HNL := Aside0.mk hnl
                have HNX := Aside0.mk hnx
                have HH2 := Aside0.mk H
                clear hrr ev hrow H hnx hnl
                go_wp2
                clear hyf hys
                go_loopg [62, 13] (row.length + 1) (fun kq v62 v13 w' => ∃ (x mm : Int), v62 = .int .i64 x ∧ v13 = .int .i64 mm ∧ Aside0 (0 ≤ x ∧ x + kq = row.length + 1 ∧ x ≤ row.length) ∧ Aside0 (nextF m far good a (row.drop x.toNat) mm = nx) ∧ Aside0 (w'.heap[gg]? = some (.cells #[.int .u64 good] 41 (0, 0))) ∧ Aside0 (Kd.R (Kd.int .i64) 3 w' w.heap.size (fun g => g ≠ ge) u9 out) ∧ Aside0 (w'.heap[gu]? = some (.cells #[.int .u64 (sPut U a)] 41 (0, 0))) ∧ Aside0 (Srch w.heap.size w' gs gf gd ge m S vs (rowsOf m l) far edges) ∧ Aside0 (Below w.heap.size w w'))
                case atStart => exact ⟨0, m, (aq), (aq), ⟨⟨by omega, by omega, by omega⟩⟩, ⟨by simpa using HNX.out⟩, BG, HO, BU, HS, HB⟩
                case round =>
                  clear HNX BG HO BU HS HB
                  obtain ⟨x, mm, rfl, rfl, HX, HNX, BG, HO, BU, HS, HB⟩ := hrel
                  cases gk with
                  | zero => exact absurd HX.out (by rintro ⟨_, _, _⟩; omega)
                  | succ k2 =>
                    by_cases c : x < (row.length : Int)
                    · have c1 : decide (x < (row.length : Int)) = true := decide_eq_true c
                      have x0 := HX.out.1
                      have HC := Aside0.mk c
                      have HM := Aside0.mk (HE2.out.2 _ (rd_mem x0 c))
                      obtain ⟨ad, ea_, hx0, hx1, hx2⟩ := at_T34 (HCr.out _ HS.out) x x0 c
                      cases ea_
                      have HU := Aside0.mk (⟨by have := HE2.out.1; unfold wrap64; omega, by omega⟩ : wrap64 (x + 1) = x + 1 ∧ x + 1 ≤ row.length)
                      have H := HNX.out
                      rw [nextF_drop x0 c] at H
                      unfold tight at H
                      obtain ⟨e0, he0⟩ : ∃ y, (rd_T34 row x).f0 = y := ⟨_, rfl⟩
                      obtain ⟨e1, he1⟩ : ∃ y, (rd_T34 row x).f1 = y := ⟨_, rfl⟩
                      obtain ⟨e2, he2⟩ : ∃ y, (rd_T34 row x).f2 = y := ⟨_, rfl⟩
                      obtain ⟨fa, hfa⟩ : ∃ y, rd far a = y := ⟨_, rfl⟩
                      obtain ⟨f1, hf1⟩ : ∃ y, rd far e1 = y := ⟨_, rfl⟩
                      have HF := Aside0.mk (And.intro hfa hf1)
                      have HM2 := HM.out
                      unfold EOK at HM2
                      rw [he1, he2] at HM2
                      rw [he1, he2, hfa, hf1] at H
                      rw [he0] at hx0
                      rw [he1] at hx1
                      rw [he2] at hx2
                      have hba := HD.out.2.2 a HAt.out.1 HAt.out.2
                      rw [hfa] at hba
                      have hsum : IntKind.i64.wrap (fa + e2) = fa + e2 := by rw [IntKind.wrap_i64]; have := HN.out; omega
                      have HZ := Aside0.mk HM2
                      have H64 := Aside0.mk (show e1 < 64 by have := HN.out; omega)
                      have t0 := eq_true HM2.1
                      have t1 := eq_true HM2.2.1
                      clear he0 he1 he2 hba HM2 hfa hf1
                      have HH3 := Aside0.mk H
                      clear H
                      replace x0 := eq_true x0
                      replace c := eq_true c
                      go_upto_region 14 with (fail)
                      obtain ⟨g5, hg5⟩ : ∃ g, g = wr.heap.size := ⟨_, rfl⟩
                      rw [← hg5]
                      have HG5 := Aside0.mk hg5
                      clear hg5
                      refine gen3_ (φ := fun w' => Aside0 (w'.heap[g5]? = some (.cells #[.int .i64 e0, .int .i64 e1, .int .i64 e2] 34 (0, 0))) ∧ Aside0 (w'.heap[gg]? = some (.cells #[.int .u64 good] 41 (0, 0))) ∧ Aside0 (Kd.R (Kd.int .i64) 3 w' w.heap.size (fun g => g ≠ ge) u9 out) ∧ Aside0 (w'.heap[gu]? = some (.cells #[.int .u64 (sPut U a)] 41 (0, 0))) ∧ Aside0 (Srch w.heap.size w' gs gf gd ge m S vs (rowsOf m l) far edges) ∧ Aside0 (Below w.heap.size w w')) ⟨⟨by rw [HG5.out]; exact blk_new _ _⟩, ⟨blk_alloc BG.out _⟩, ⟨Kd.R_alloc HO.out _⟩, ⟨blk_alloc BU.out _⟩, ⟨HS.out.alloc _⟩, ⟨bf HB⟩⟩ ?_
                      clear HG5 BG HO BU HS HB hx0 hx1 hx2
                      rintro w8 ⟨B5, BG, HO, BU, HS, HB⟩
                      have hy5 := X.k3 B5
                      have hyg := X.k1 BG
                      have hys := X.k4 (Aside0.mk HS.out.hs)
                      have hya := HS.out.cd a HAt.out.1 HAt.out.2
                      have hyb := HS.out.cd e1 HZ.out.1 HZ.out.2.1
                      rw [HF.out.1] at hya
                      rw [HF.out.2] at hyb
                      cases c1 : sHas good e1 with
                      | false =>
                        have HH4 := Aside0.mk (show nextF m far good a (row.drop (x + 1).toNat) mm = nx from by have h := HH3.out; rw [c1, Bool.false_and, if_neg (by decide)] at h; exact h)
                        go_quiet ((go_at_call 20; exact Calls.quiet_of_same (has_quiet gg good e1 _ _ hyg.1 HZ.out.1 H64.out c1)))
                        go_wp2
                        go_roundg k2
                        case measure => omega
                        case rel => exact ⟨wrap64 (x + 1), mm, (aq), (aq), ⟨by rw [HU.out.1]; have := HX.out; have := HU.out; exact ⟨by omega, by omega, by omega⟩⟩, ⟨by rw [HU.out.1]; exact HH4.out⟩, ⟨blk_drewN BG.out _⟩, ⟨Kd.R_drewN HO.out _⟩, ⟨blk_drewN BU.out _⟩, ⟨HS.out.drewN _⟩, ⟨bf HB⟩⟩
                      | true =>
                        cases c2 : (f1 == fa + e2) with
                        | false =>
                          have HH4 := Aside0.mk (show nextF m far good a (row.drop (x + 1).toNat) mm = nx from by have h := HH3.out; rw [c1, c2, Bool.true_and, if_neg (by decide)] at h; exact h)
                          go_quiet ((go_at_call 20; exact Calls.quiet_of_same (has_quiet gg good e1 _ _ hyg.1 HZ.out.1 H64.out c1)))
                          go_wp2
                          go_roundg k2
                          case measure => omega
                          case rel => exact ⟨wrap64 (x + 1), mm, (aq), (aq), ⟨by rw [HU.out.1]; have := HX.out; have := HU.out; exact ⟨by omega, by omega, by omega⟩⟩, ⟨by rw [HU.out.1]; exact HH4.out⟩, ⟨blk_drewN BG.out _⟩, ⟨Kd.R_drewN HO.out _⟩, ⟨blk_drewN BU.out _⟩, ⟨HS.out.drewN _⟩, ⟨bf HB⟩⟩
                        | true =>
                          by_cases c3 : e1 < mm
                          · have HH4 := Aside0.mk (show nextF m far good a (row.drop (x + 1).toNat) e1 = nx from by have h := HH3.out; rw [c1, c2, Bool.true_and, if_pos rfl, if_pos c3] at h; exact h)
                            replace c3 := eq_true c3
                            go_quiet ((go_at_call 20; exact Calls.quiet_of_same (has_quiet gg good e1 _ _ hyg.1 HZ.out.1 H64.out c1)))
                            go_wp2
                            go_roundg k2
                            case measure => omega
                            case rel => exact ⟨wrap64 (x + 1), e1, (aq), (aq), ⟨by rw [HU.out.1]; have := HX.out; have := HU.out; exact ⟨by omega, by omega, by omega⟩⟩, ⟨by rw [HU.out.1]; exact HH4.out⟩, ⟨blk_drewN BG.out _⟩, ⟨Kd.R_drewN HO.out _⟩, ⟨blk_drewN BU.out _⟩, ⟨HS.out.drewN _⟩, ⟨bf HB⟩⟩
                          · have HH4 := Aside0.mk (show nextF m far good a (row.drop (x + 1).toNat) mm = nx from by have h := HH3.out; rw [c1, c2, Bool.true_and, if_pos rfl, if_neg c3] at h; exact h)
                            replace c3 := eq_false c3
                            go_quiet ((go_at_call 20; exact Calls.quiet_of_same (has_quiet gg good e1 _ _ hyg.1 HZ.out.1 H64.out c1)))
                            go_wp2
                            go_roundg k2
                            case measure => omega
                            case rel => exact ⟨wrap64 (x + 1), mm, (aq), (aq), ⟨by rw [HU.out.1]; have := HX.out; have := HU.out; exact ⟨by omega, by omega, by omega⟩⟩, ⟨by rw [HU.out.1]; exact HH4.out⟩, ⟨blk_drewN BG.out _⟩, ⟨Kd.R_drewN HO.out _⟩, ⟨blk_drewN BU.out _⟩, ⟨HS.out.drewN _⟩, ⟨bf HB⟩⟩
                    · have c1 : decide (x < (row.length : Int)) = false := decide_eq_false c
                      have hmm : mm = nx := by
                        have H := HNX.out
                        rw [List.drop_eq_nil_of_le (by have := HX.out; omega)] at H
                        exact H
                      subst hmm
                      clear c
                      have H := HH2.out
                      by_cases c9 : mm = (m : Int)
                      · rw [if_pos c9] at H
                        obtain rfl := Option.some.inj H
                        have c9b : (mm == (m : Int)) = true := beq_iff_eq.mpr c9
                        clear c9 H
                        go_wp2
                        go_ret
                        exact ⟨_, rfl, Kd.R_nil _ _ _ _ _, bf HB⟩
                      · rw [if_neg c9] at H
                        have c9b : (mm == (m : Int)) = false := beq_eq_false_iff_ne.mpr c9
                        have HNM := Aside0.mk (show 0 ≤ mm ∧ mm < m by have := HNL.out; omega)
                        by_cases c10 : out.length < 1000
                        · rw [if_pos c10] at H
                          have HLen := Aside0.mk c10
                          have HH5 := Aside0.mk H
                          clear c9 c10 H
                          go_wp2_with (first | ((with_reducible refine gate_builtin (b := .append) (xs := #[.tmp 98, .tmp 100]) rfl ?_); at_builtin; refine Kd.R_append (Kd.int .i64) (w0 := w) w.heap.size rfl (.tmp 98) (.tmp 100) 30 3 (.int .i64 0) 8 rfl Tryd.underlying30 hinfo3 rfl (by decide) (by decide) u9 out mm [.int .i64 mm] (fun g => g ≠ ge) (fun _ => False) rfl rfl rfl (fun _ h => h.elim) (fun k hk => by have := blk_lt HS.out.he; omega) HO.out HB.out HB.out.size (by have := HLen.out; omega) ?_; intro v1 w9 hR9 hB9 hg9 hat9; replace BU := Aside0.mk (blk_grown BU.out hg9 (Kd.R_ne HO.out BU.out (by decide))); replace HS := Aside0.mk (HS.out.grown HO.out hg9); replace HB := Aside0.mk hB9; replace HO := Aside0.mk hR9; clear hR9 hB9 hg9 hat9))
                          go_roundg k1
                          case measure => omega
                          case rel => exact ⟨mm, sPut U a, out ++ [mm], (aq), HH5, ⟨by have := HK1.out; omega⟩, HNM, HO, BU, HS, HB⟩
                        · rw [if_neg c10] at H
                          cases H
end Go.Proofs.YtcdddmaibchjjaaDoor.X
