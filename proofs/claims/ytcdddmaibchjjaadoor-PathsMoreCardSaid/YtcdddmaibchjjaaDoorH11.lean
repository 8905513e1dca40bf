import Derived.Test.YtcdddmaibchjjaaDoorProg
import Derived.Below
import Derived.Deep.Draws
import Derived.Deep.AppendLies
import Derived.Maps.AppendAt
import Derived.OwnWalk
import Derived.Laws.BytesArg
import Derived.Laws.MakeOwn
import Derived.Laws.OwnMore
import Derived.Deep.OwnRows
import Derived.Tactics
import Derived.Lib.ConvBytes
import Derived.Laws.Slices
import Derived.WalkKit
import Derived.KernelRfl
import Derived.RowKit3
import Derived.Deep.LoopGhost
import Derived.Deep.QuietTactic
import Derived.BigQuiet
import Derived.WideLaws
import Derived.Deep.DeepCutAuto
import Derived.Deep.CutBlock
import Derived.Deep.RegionHeld3
import Derived.Laws.Rows
import Derived.Lib.AppendStr
import Derived.ArgAppend
import Derived.Laws.IdiomCopy
import Derived.OrdersHeld
import Derived.Laws.BitsLemmas
import Derived.RowKit
import Derived.Test.YtcdddmaibchjjaaDoorXBase
import Derived.Test.YtcdddmaibchjjaaDoorV
import Derived.Test.YtcdddmaibchjjaaDoorX0
import Derived.RegionTactic
import Derived.ChangeAlike
import Derived.Test.YtcdddmaibchjjaaDoorH1
import Derived.Test.YtcdddmaibchjjaaDoorH2
import Derived.Test.YtcdddmaibchjjaaDoorH3
import Derived.Test.YtcdddmaibchjjaaDoorH5
import Derived.Test.YtcdddmaibchjjaaDoorH6
import Derived.Test.YtcdddmaibchjjaaDoorH7
import Derived.Test.YtcdddmaibchjjaaDoorH8
import Derived.Test.YtcdddmaibchjjaaDoorH9
import Derived.Test.YtcdddmaibchjjaaDoorH10
import Derived.Test.YtcdddmaibchjjaaDoorHT
import Derived.Laws.Bits64b
import Derived.Lib.TrailingZeros
namespace Go.Proofs.YtcdddmaibchjjaaDoor.X
open Go.RowKit Go.Proofs.YtcdddmaibchjjaaDoorW.PrintWords Go.Proofs.YtcdddmaibchjjaaDoorW.PrintLast Go.Proofs.YtcdddmaibchjjaaDoorW.PrintMore
set_option linter.unusedVariables false
set_option linter.unusedSimpArgs false
set_option maxHeartbeats 1000000
set_option maxRecDepth 100000
theorem gen3_ {P c K a} {W : World} {φ : World → Prop} (hφ : φ W) (h : ∀ w' : World, φ w' → Code.wp P c K a w') : Code.wp P c K a W := h W hφ
theorem has_two {g1 g2 g : Nat} {S1 S2 q : Int} {b1 b2 b : Bool} {w W : World} (h1 : w.cell? ⟨g1, 0, none⟩ = some (.int .u64 S1)) (h2 : w.cell? ⟨g2, 0, none⟩ = some (.int .u64 S2)) (hq0 : 0 ≤ q) (hq : q < 64) (hb1 : sHas S1 q = b1) (hb2 : sHas S2 q = b2) (hg : (g = g1 ∧ b = b1) ∨ (g = g2 ∧ b = b2)) (hw : W.heap = w.heap := by rfl) : Calls Tryd.prog 20 #[.pointer (some ⟨g, 0, none⟩), .int .i64 q] W fun e w' => e = .returned (.bool b) ∧ w' = W := by
  have hc : ∀ a, W.cell? a = w.cell? a := fun a => by unfold World.cell?; rw [hw]
  rcases hg with ⟨rfl, rfl⟩ | ⟨rfl, rfl⟩
  · exact has_quiet g S1 q b W ((hc _).trans h1) hq0 hq hb1
  · exact has_quiet g S2 q b W ((hc _).trans h2) hq0 hq hb2
def gate (far : List Int) (O used p : Int) : Bool := decide (rd far p < 0) || sHas O p || sHas used p
def scan1 (rows : List (List S34)) (far : List Int) (used p : Int) (st : Int × Bool) : Int × Bool :=
  if gate far st.1 used p = true then st else if (rows.getD p.toNat []).any (tight st.1 far p) = true then (sPut st.1 p, true) else st
def scanFrom (rows : List (List S34)) (far : List Int) (used : Int) : Nat → Int → Int × Bool → Int × Bool
  | 0, _, st => st
  | d + 1, p, st => scanFrom rows far used d (p + 1) (scan1 rows far used p st)
def reachL (n : Nat) (rows : List (List S34)) (far : List Int) (used : Int) : Nat → Int → Bool → Option Int
  | 0, _, _ => none
  | k + 1, O, g => if g = true then reachL n rows far used k (scanFrom rows far used n 0 (O, false)).1 (scanFrom rows far used n 0 (O, false)).2 else some O
def paths_reach.T10 : Bool × List (List Nat × List Nat) := (true, [([], []), ([0], [0]), ([1], [1]), ([2], [2]), ([], []), ([3, 4], [3, 4]), ([5], [5]), ([], []), ([6, 7], [6, 7])])
def paths_reach.B10 : List Nat := [0, 1, 3, 7, 0, 31, 63, 0, 255]
theorem paths_reach.tab10 : rtab .any (opsOf Tryd.f19 10) = paths_reach.T10 := by kernel_rfl
theorem paths_reach.bits10 : waitsOk paths_reach.T10.2 paths_reach.B10 = true := by kernel_rfl
set_option maxHeartbeats 8000000 in
theorem paths_reach.calls (b n gs gf gd ge : Nat) (S U tp : Int) (vs : List Value) (rows : List (List S34)) (far edges : List Int) (k : Nat) (r : Int) (w : World) (hn : 1 ≤ n ∧ n ≤ 64)
    (hs : Srch b w gs gf gd ge n S vs rows far edges) (hd : Bd n far edges) (he : ∀ q, q < n → (rows.getD q []).length ≤ 1000 ∧ ∀ e ∈ rows.getD q [], EOK n e) (ht : 0 ≤ tp ∧ tp < n) (h : reachL n rows far U k (sPut 0 tp) true = some r) :
    Calls Tryd.prog 19 #[.pointer (some ⟨gs, 0, none⟩), .int .i64 tp, .int .u64 U] w fun e w' => e = .returned (.int .u64 r) ∧ Below w.heap.size w w' := by
  have hu44 := Tryd.underlying44
  have hmf : ∀ (fn : Fn) (first cap : Array Value) (w : World), (Instr.makeFunc fn first cap).run Tryd.prog w = .ok (.func fn first cap) w := fun _ _ _ _ => rfl
  have HN := Aside0.mk hn
  have HS := Aside0.mk hs
  have HD := Aside0.mk hd
  have HE := Aside0.mk he
  have HT := Aside0.mk ht
  have H' := Aside0.mk h
  have HB := Aside0.mk (Below.refl w.heap.size w)
  clear hn hs hd he ht h
  go_enter Tryd.func19, Tryd.ntmps19
  go_upto_region 2 with (fail)
  obtain ⟨gb, hgb⟩ : ∃ g, g = w.heap.size := ⟨_, rfl⟩
  obtain ⟨gu, hgu⟩ : ∃ g, g = w.heap.size + 1 := ⟨_, rfl⟩
  obtain ⟨go, hgo⟩ : ∃ g, g = w.heap.size + 1 + 1 := ⟨_, rfl⟩
  rw [← hgo, ← hgu, ← hgb]
  have HG := Aside0.mk (And.intro hgb (And.intro hgu hgo))
  clear hgb hgu hgo
  refine gen3_ (φ := fun w' => Aside0 (w'.heap[gb]? = some (.cells #[.pointer (some ⟨gs, 0, none⟩)] 37 (0, 0))) ∧ Aside0 (w'.heap[gu]? = some (.cells #[.int .u64 U] 41 (0, 0))) ∧ Aside0 (w'.heap[go]? = some (.cells #[.int .u64 0] 41 (0, 0))) ∧ Aside0 (Srch b w' gs gf gd ge n S vs rows far edges) ∧ Aside0 (Below w.heap.size w w')) ⟨⟨by rw [HG.out.1]; repeat (first | exact new_at (by simp; done) | apply blk_alloc)⟩, ⟨by rw [HG.out.2.1]; repeat (first | exact new_at (by simp; done) | apply blk_alloc)⟩, ⟨by rw [HG.out.2.2]; repeat (first | exact new_at (by simp; done) | apply blk_alloc)⟩, ⟨((HS.out.alloc _).alloc _).alloc _⟩, ⟨bf HB⟩⟩ ?_
  have HGo := Aside0.mk (show w.heap.size ≤ go from by have := HG.out.2.2; omega)
  have NGU := Aside0.mk (show gu ≠ go from by have := HG.out; omega)
  clear HG HS HB
  rintro w1 ⟨BB, BU, BO, HS, HB⟩
  have hyo := X.k1 BO
  go_upto_region 3 with (first | (go_at_call 18; refine (paths_set_put.calls go 0 tp _ (X.k1 BO).1 (X.k1 BO).2 HT.out.1 (by have := HT.out; have := HN.out; omega)).mono ?_; rintro e w' ⟨rfl, rfl⟩))
  refine gen3_ (φ := fun w' => Aside0 (w'.heap[gb]? = some (.cells #[.pointer (some ⟨gs, 0, none⟩)] 37 (0, 0))) ∧ Aside0 (w'.heap[gu]? = some (.cells #[.int .u64 U] 41 (0, 0))) ∧ Aside0 (w'.heap[go]? = some (.cells #[.int .u64 (sPut 0 tp)] 41 (0, 0))) ∧ Aside0 (Srch b w' gs gf gd ge n S vs rows far edges) ∧ Aside0 (Below w.heap.size w w')) ⟨⟨blk_drew (blk_far BB.out (blk_ne BB.out BO.out (by decide)) _)⟩, ⟨blk_drew (blk_far BU.out NGU.out _)⟩, ⟨blk_drew (blk_set BO.out 0 _)⟩, ⟨(HS.out.far_ BO.out (blk_ne BO.out HS.out.hs (by decide)) (blk_ne BO.out HS.out.hf (by decide)) (blk_ne BO.out HS.out.hd (by decide)) (blk_ne BO.out HS.out.he (by decide)) (by decide) _ _).drew⟩, ⟨below_drew1 (below_set HB.out HGo.out)⟩⟩ ?_
  clear hyo BB BU BO HS HB
  rintro w2 ⟨BB, BU, BO, HS, HB⟩
  go_wp2
  go_loopg [8] k (fun kq v8 w' => ∃ (O : Int) (g : Bool), v8 = .bool g ∧ Aside0 (reachL n rows far U kq O g = some r) ∧ Aside0 (kq ≤ k) ∧ Aside0 (w'.heap[gb]? = some (.cells #[.pointer (some ⟨gs, 0, none⟩)] 37 (0, 0))) ∧ Aside0 (w'.heap[gu]? = some (.cells #[.int .u64 U] 41 (0, 0))) ∧ Aside0 (w'.heap[go]? = some (.cells #[.int .u64 O] 41 (0, 0))) ∧ Aside0 (Srch b w' gs gf gd ge n S vs rows far edges) ∧ Aside0 (Below w.heap.size w w'))
  case atStart => exact ⟨sPut 0 tp, true, (aq), H', ⟨Nat.le_refl _⟩, BB, BU, BO, HS, HB⟩
  case round =>
    clear H' BB BU BO HS HB
    obtain ⟨O, g, rfl, HA, HK1, BB, BU, BO, HS, HB⟩ := hrel
    cases gk with
    | zero => exact absurd HA.out (by simp [reachL])
    | succ k1 =>
      have H := HA.out
      clear HA
      cases g with
      | false =>
        have hr := Aside0.mk (Option.some.inj (show some O = some r from H))
        clear H
        have hyo := X.k1 BO
        go_wp2
        go_ret
        exact ⟨by rw [← hr.out]; rfl, bf HB⟩
      | true =>
        have H2 : reachL n rows far U k1 (scanFrom rows far U n 0 (O, false)).1 (scanFrom rows far U n 0 (O, false)).2 = some r := H
        obtain ⟨st, hst⟩ : ∃ st, scanFrom rows far U n 0 (O, false) = st := ⟨_, rfl⟩
        rw [hst] at H2
        have HH := Aside0.mk H2
        have HST := Aside0.mk hst
        clear H H2 hst
        have hys := X.k4 (Aside0.mk HS.out.hs)
        have hyb := X.k1 BB
        go_wp2
        clear hys hyb
        go_loopg [18, 8] (n + 1) (fun kq v18 v8 w' => ∃ (x O1 : Int) (g1 : Bool), v18 = .int .i64 x ∧ v8 = .bool g1 ∧ Aside0 (0 ≤ x ∧ x + kq = n + 1 ∧ x ≤ n) ∧ Aside0 (scanFrom rows far U (n - x.toNat) x (O1, g1) = st) ∧ Aside0 (w'.heap[gb]? = some (.cells #[.pointer (some ⟨gs, 0, none⟩)] 37 (0, 0))) ∧ Aside0 (w'.heap[gu]? = some (.cells #[.int .u64 U] 41 (0, 0))) ∧ Aside0 (w'.heap[go]? = some (.cells #[.int .u64 O1] 41 (0, 0))) ∧ Aside0 (Srch b w' gs gf gd ge n S vs rows far edges) ∧ Aside0 (Below w.heap.size w w'))
        case atStart => exact ⟨0, O, false, (aq), (aq), ⟨⟨by omega, by omega, by omega⟩⟩, ⟨by simpa using HST.out⟩, BB, BU, BO, HS, HB⟩
        case round =>
          clear HST BB BU BO HS HB
          obtain ⟨x, O1, g1, rfl, rfl, HX, HST, BB, BU, BO, HS, HB⟩ := hrel
          cases gk with
          | zero => exact absurd HX.out (by rintro ⟨_, _, _⟩; omega)
          | succ k2 =>
            by_cases c : x < (n : Int)
            · have c1 : decide (x < (n : Int)) = true := decide_eq_true c
              have HC := Aside0.mk c
              have x0 := eq_true HX.out.1
              have HU := Aside0.mk (⟨by have := HN.out; have := HX.out; unfold wrap64; omega, by omega⟩ : wrap64 (x + 1) = x + 1 ∧ x + 1 ≤ n)
              have H := HST.out
              rw [show n - x.toNat = (n - (x + 1).toNat) + 1 by have := HX.out; omega] at H
              have HS2 := Aside0.mk (show scanFrom rows far U (n - (x + 1).toNat) (x + 1) (scan1 rows far U x (O1, g1)) = st from H)
              clear H
              replace c := eq_true c
              go_upto_region 9 with (fail)
              obtain ⟨g9, hg9⟩ : ∃ g, g = wr.heap.size := ⟨_, rfl⟩
              rw [← hg9]
              have HG9 := Aside0.mk hg9
              clear hg9
              refine gen3_ (φ := fun w' => Aside0 (w'.heap[g9]? = some (.cells #[.int .i64 x] 3 (0, 0))) ∧ Aside0 (w'.heap[gb]? = some (.cells #[.pointer (some ⟨gs, 0, none⟩)] 37 (0, 0))) ∧ Aside0 (w'.heap[gu]? = some (.cells #[.int .u64 U] 41 (0, 0))) ∧ Aside0 (w'.heap[go]? = some (.cells #[.int .u64 O1] 41 (0, 0))) ∧ Aside0 (Srch b w' gs gf gd ge n S vs rows far edges) ∧ Aside0 (Below w.heap.size w w')) ⟨⟨by rw [HG9.out]; exact blk_new _ _⟩, ⟨blk_alloc BB.out _⟩, ⟨blk_alloc BU.out _⟩, ⟨blk_alloc BO.out _⟩, ⟨HS.out.alloc _⟩, ⟨bf HB⟩⟩ ?_
              clear HG9 BB BU BO HS HB
              rintro w9 ⟨B9, BB, BU, BO, HS, HB⟩
              have hys := X.k4 (Aside0.mk HS.out.hs)
              have hyo := X.k1 BO
              have hyb := X.k1 BB
              have hyu := X.k1 BU
              have hy9 := X.k1 B9
              have hfx := HS.out.cd x HX.out.1 HC.out
              obtain ⟨fx, hfe⟩ : ∃ y, rd far x = y := ⟨_, rfl⟩
              rw [hfe] at hfx
              have HF := Aside0.mk hfe
              have H64 := Aside0.mk (show x < 64 from by have := HN.out; have := HC.out; omega)
              clear hfe
              by_cases c0 : fx < 0
              · have c0b : decide (fx < 0) = true := decide_eq_true c0
                have HS3 := HS2.out
                rw [show scan1 rows far U x (O1, g1) = (O1, g1) from by unfold scan1 gate; simp only; rw [HF.out, c0b]; rfl] at HS3
                replace HS3 := Aside0.mk HS3
                clear c0
                go_quiet (fail)
                go_wp2
                go_roundg k2
                case measure => omega
                case rel => exact ⟨wrap64 (x + 1), O1, g1, (aq), (aq), ⟨by rw [HU.out.1]; have := HX.out; have := HU.out; exact ⟨by omega, by omega, by omega⟩⟩, ⟨by rw [HU.out.1]; exact HS3.out⟩, ⟨blk_drewN BB.out _⟩, ⟨blk_drewN BU.out _⟩, ⟨blk_drewN BO.out _⟩, ⟨HS.out.drewN _⟩, ⟨bf HB⟩⟩
              · have c0b : decide (fx < 0) = false := decide_eq_false c0
                clear c0
                cases c1 : sHas O1 x with
                | true =>
                  have HS3 := HS2.out
                  rw [show scan1 rows far U x (O1, g1) = (O1, g1) from by unfold scan1 gate; simp only; rw [HF.out, c0b, c1]; rfl] at HS3
                  replace HS3 := Aside0.mk HS3
                  go_quiet ((go_at_call 20; exact Calls.quiet_of_same (has_quiet go O1 x _ _ hyo.1 HX.out.1 H64.out c1)))
                  go_wp2
                  go_roundg k2
                  case measure => omega
                  case rel => exact ⟨wrap64 (x + 1), O1, g1, (aq), (aq), ⟨by rw [HU.out.1]; have := HX.out; have := HU.out; exact ⟨by omega, by omega, by omega⟩⟩, ⟨by rw [HU.out.1]; exact HS3.out⟩, ⟨blk_drewN BB.out _⟩, ⟨blk_drewN BU.out _⟩, ⟨blk_drewN BO.out _⟩, ⟨HS.out.drewN _⟩, ⟨bf HB⟩⟩
                | false =>
                  cases c2 : sHas U x with
                  | true =>
                    have HS3 := HS2.out
                    rw [show scan1 rows far U x (O1, g1) = (O1, g1) from by unfold scan1 gate; simp only; rw [HF.out, c0b, c1, c2]; rfl] at HS3
                    replace HS3 := Aside0.mk HS3
                    go_quiet ((go_at_call 20; exact Calls.quiet_of_same (has_two hyo.1 hyu.1 HX.out.1 H64.out c1 c2 (by first | exact .inl ⟨rfl, rfl⟩ | exact .inr ⟨rfl, rfl⟩))))
                    go_wp2
                    go_roundg k2
                    case measure => omega
                    case rel => exact ⟨wrap64 (x + 1), O1, g1, (aq), (aq), ⟨by rw [HU.out.1]; have := HX.out; have := HU.out; exact ⟨by omega, by omega, by omega⟩⟩, ⟨by rw [HU.out.1]; exact HS3.out⟩, ⟨blk_drewN BB.out _⟩, ⟨blk_drewN BU.out _⟩, ⟨blk_drewN BO.out _⟩, ⟨HS.out.drewN _⟩, ⟨bf HB⟩⟩
                  | false =>
                    have hgt : gate far O1 U x = false := by unfold gate; rw [HF.out, c0b, c1, c2]; rfl
                    have HGT := Aside0.mk hgt
                    clear hgt
                    go_quiet ((go_at_call 20; exact Calls.quiet_of_same (has_two hyo.1 hyu.1 HX.out.1 H64.out c1 c2 (by first | exact .inl ⟨rfl, rfl⟩ | exact .inr ⟨rfl, rfl⟩))))
                    go_upto_region 10 with (fail)
                    refine gen3_ (φ := fun w' => Aside0 (w'.heap[g9]? = some (.cells #[.int .i64 x] 3 (0, 0))) ∧ Aside0 (w'.heap[gb]? = some (.cells #[.pointer (some ⟨gs, 0, none⟩)] 37 (0, 0))) ∧ Aside0 (w'.heap[gu]? = some (.cells #[.int .u64 U] 41 (0, 0))) ∧ Aside0 (w'.heap[go]? = some (.cells #[.int .u64 O1] 41 (0, 0))) ∧ Aside0 (Srch b w' gs gf gd ge n S vs rows far edges) ∧ Aside0 (Below w.heap.size w w')) ⟨⟨blk_drewN B9.out _⟩, ⟨blk_drewN BB.out _⟩, ⟨blk_drewN BU.out _⟩, ⟨blk_drewN BO.out _⟩, ⟨HS.out.drewN _⟩, ⟨bf HB⟩⟩ ?_
                    clear hys hyo hyb hyu hy9 hfx B9 BB BU BO HS HB c0b c1 c2
                    rintro w9 ⟨B9, BB, BU, BO, HS, HB⟩
                    obtain ⟨row, hrow⟩ : ∃ l, rows.getD x.toNat [] = l := ⟨_, rfl⟩
                    have hrr := HS.out.hr x.toNat (by have := HX.out; have := HC.out; omega)
                    rw [hrow] at hrr
                    obtain ⟨A, cA, ev⟩ := Kd.R_slice hrr
                    have HCr := Aside0.mk (fun (w' : World) (h : Srch b w' gs gf gd ge n S vs rows far edges) => (by
                      have h2 := h.hr x.toNat (by have := HX.out; have := HC.out; omega)
                      rw [hrow, ev] at h2
                      exact (Kd.R_reads' h2).2.2 : Kd.C k34 w' A row.length row))
                    have HE2 := HE.out x.toNat (by have := HX.out; have := HC.out; omega)
                    rw [hrow] at HE2
                    replace HE2 := Aside0.mk HE2
                    have hyf := HS.out.cf x HX.out.1 HC.out
                    rw [ev] at hyf
                    have HR := Aside0.mk hrow
                    have hys := X.k4 (Aside0.mk HS.out.hs)
                    have hyo := X.k1 BO
                    have hyb := X.k1 BB
                    have hyu := X.k1 BU
                    have hy9 := X.k1 B9
                    clear hrr ev hrow
                    obtain ⟨bb_, hbb⟩ : ∃ y, row.any (tight O1 far x) = y := ⟨_, rfl⟩
                    have HANY := Aside0.mk hbb
                    clear hbb
                    refine start_ (n := 9) (S := fun w' => c_ w' gs 1 (.slice (some ⟨gf, 0, none⟩) n n) ∧ c_ w' gb 0 (.pointer (some ⟨gs, 0, none⟩)) ∧ c_ w' g9 0 (.int .i64 x) ∧ c_ w' gf x.toNat (.slice A row.length cA)) (ds := [8]) (m_ 9 0) (by kernel_rfl) rfl rfl ⟨ct (Aside0.mk HS.out.hs) 1, ct BB 0, ct B9 0, hyf⟩ (fun hHeld => ?_); refine with_tabW paths_reach.tab10 paths_reach.bits10 (fun HT_ HW_ => ?_)
                    replace HS := Aside0.mk HS.out.drew
                    replace BO := Aside0.mk (blk_drew BO.out)
                    replace BB := Aside0.mk (blk_drew BB.out)
                    replace BU := Aside0.mk (blk_drew BU.out)
                    replace B9 := Aside0.mk (blk_drew B9.out)
                    replace HB := Aside0.mk (below_drew1 HB.out)
                    clear hys hyo hyb hyu hy9 hyf
                    generalize w9.drew = w10 at HS BO BB BU B9 HB hHeld ⊢
                    refine pu_ 7 (some 44) (m_ 9 128) rfl rfl (ao HT_) ?_
                    refine tk_ 0 (some 37) (m_ 9 129) rfl rfl (tw HT_ HW_) hHeld ?_
                    refine pu_ 1 (some 38) (m_ 9 131) rfl rfl (ao HT_) ?_
                    refine pu_ 2 (some 39) (m_ 9 135) rfl rfl (ao HT_) ?_
                    refine tk_ 3 (some 40) (m_ 9 143) rfl rfl (tw HT_ HW_) hHeld ?_
                    refine tk_ 4 (some 41) (m_ 9 159) rfl rfl (tw HT_ HW_) hHeld ?_
                    refine pu_ 5 (some 42) (m_ 9 191) rfl rfl (ao HT_) ?_
                    refine tk_ 6 (some 43) (m_ 9 255) rfl rfl (tw HT_ HW_) hHeld ?_
                    refine last_ (i := 8) (N := some 45) (m_ 9 511) rfl rfl (oo HT_) (by decide) (fun K hK => ?_)
                    refine gs_ rfl Tryd.func25 (slices_ContainsFunc_Edge.calls 26 Tryd.f26 #[.pointer (some ⟨go, 0, none⟩), .pointer (some ⟨gb, 0, none⟩), .pointer (some ⟨g9, 0, none⟩)] Tryd.func26 (by kernel_rfl) (by kernel_rfl) (tight O1 far x) A cA row w10 (HCr.out w10 HS.out) (by have := HE2.out.1; omega) (fun y w11 hy hb11 => paths_reach_1.calls b n gs gf gd ge go gb g9 S O1 x vs rows far edges y.f0 y.f1 y.f2 w11 (blk_below BO.out hb11) (blk_below BB.out hb11) (blk_below B9.out hb11) (HS.out.below hb11) HD.out HN.out.2 HX.out.1 HC.out (HE2.out.2 y hy))) ag ?_
                    intro w12 hb12
                    rw [HANY.out]
                    refine hK.out _ _ ?_
                    clear hK K
                    refine nr_ (some 45) ?_
                    refine done_ (done_of HT_.out (by kernel_rfl)) ?_
                    replace BB := bb BB hb12
                    replace B9 := bb B9 hb12
                    replace BU := bb BU hb12
                    replace BO := bb BO hb12
                    replace HS := Aside0.mk (HS.out.below hb12)
                    replace HB := bs HB hb12
                    clear hb12 hHeld
                    cases bb_ with
                    | false =>
                      have HS3 := HS2.out
                      rw [show scan1 rows far U x (O1, g1) = (O1, g1) from by unfold scan1; simp only; rw [HGT.out, HR.out, HANY.out]; rfl] at HS3
                      replace HS3 := Aside0.mk HS3
                      go_wp2
                      go_roundg k2
                      case measure => omega
                      case rel => exact ⟨wrap64 (x + 1), O1, g1, (aq), (aq), ⟨by rw [HU.out.1]; have := HX.out; have := HU.out; exact ⟨by omega, by omega, by omega⟩⟩, ⟨by rw [HU.out.1]; exact HS3.out⟩, BB, BU, BO, HS, HB⟩
                    | true =>
                      have HS3 := HS2.out
                      rw [show scan1 rows far U x (O1, g1) = (sPut O1 x, true) from by unfold scan1; simp only; rw [HGT.out, HR.out, HANY.out]; rfl] at HS3
                      replace HS3 := Aside0.mk HS3
                      have hy9 := X.k1 B9
                      go_wp2_with (first | (go_at_call 18; refine (paths_set_put.calls go O1 x _ (X.k1 BO).1 (X.k1 BO).2 HX.out.1 H64.out).mono ?_; rintro e w' ⟨rfl, rfl⟩))
                      go_roundg k2
                      case measure => omega
                      case rel => exact ⟨wrap64 (x + 1), sPut O1 x, true, (aq), (aq), ⟨by rw [HU.out.1]; have := HX.out; have := HU.out; exact ⟨by omega, by omega, by omega⟩⟩, ⟨by rw [HU.out.1]; exact HS3.out⟩, ⟨blk_drew (blk_far BB.out (blk_ne BB.out BO.out (by decide)) _)⟩, ⟨blk_drew (blk_far BU.out NGU.out _)⟩, ⟨blk_drew (blk_set BO.out 0 _)⟩, ⟨(HS.out.far_ BO.out (blk_ne BO.out HS.out.hs (by decide)) (blk_ne BO.out HS.out.hf (by decide)) (blk_ne BO.out HS.out.hd (by decide)) (blk_ne BO.out HS.out.he (by decide)) (by decide) _ _).drew⟩, ⟨below_drew1 (below_set HB.out HGo.out)⟩⟩
            · have c1 : decide (x < (n : Int)) = false := decide_eq_false c
              have H3 := HST.out
              rw [show n - x.toNat = 0 by have := HX.out; omega] at H3
              have H4 : (O1, g1) = st := H3
              have HH2 := Aside0.mk (show reachL n rows far U k1 O1 g1 = some r from by have h5 := HH.out; rw [← H4] at h5; exact h5)
              clear H3 H4 c
              go_wp2
              go_roundg k1
              case measure => omega
              case rel => exact ⟨O1, g1, (aq), HH2, ⟨by have := HK1.out; omega⟩, BB, BU, BO, HS, HB⟩
end Go.Proofs.YtcdddmaibchjjaaDoor.X
