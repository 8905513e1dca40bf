import Derived.Test.YtcdddmaibchjjaaDoorProg
import Derived.Below
import Derived.Deep.Draws
import Derived.Deep.AppendLies
import Derived.Maps.AppendAt
import Derived.OwnWalk
import Derived.Laws.BytesArg
import Derived.Laws.MakeOwn
import Derived.Laws.OwnMore
import Derived.Deep.OwnRows
import Derived.Tactics
import Derived.Lib.ConvBytes
import Derived.Laws.Slices
import Derived.WalkKit
import Derived.KernelRfl
import Derived.RowKit3
import Derived.Deep.LoopGhost
import Derived.Deep.QuietTactic
import Derived.BigQuiet
import Derived.WideLaws
import Derived.Deep.DeepCutAuto
import Derived.Deep.CutBlock
import Derived.Deep.RegionHeld3
import Derived.Laws.Rows
import Derived.Lib.AppendStr
import Derived.ArgAppend
import Derived.Laws.IdiomCopy
import Derived.OrdersHeld
import Derived.Laws.BitsLemmas
import Derived.RowKit
import Derived.Test.YtcdddmaibchjjaaDoorXBase
import Derived.Test.YtcdddmaibchjjaaDoorV
import Derived.Test.YtcdddmaibchjjaaDoorX0
import Derived.RegionTactic
import Derived.ChangeAlike
import Derived.Test.YtcdddmaibchjjaaDoorH1
import Derived.Test.YtcdddmaibchjjaaDoorH2
import Derived.Test.YtcdddmaibchjjaaDoorH3
import Derived.Test.YtcdddmaibchjjaaDoorH5
import Derived.Test.YtcdddmaibchjjaaDoorH6
import Derived.Test.YtcdddmaibchjjaaDoorH7
import Derived.Test.YtcdddmaibchjjaaDoorHT
import Derived.Laws.Bits64b
import Derived.Lib.TrailingZeros
namespace Go.Proofs.YtcdddmaibchjjaaDoor.X
open Go.RowKit Go.Proofs.YtcdddmaibchjjaaDoorW.PrintWords Go.Proofs.YtcdddmaibchjjaaDoorW.PrintLast Go.Proofs.YtcdddmaibchjjaaDoorW.PrintMore
set_option linter.unusedVariables false
set_option linter.unusedSimpArgs false
set_option maxHeartbeats 1000000
set_option maxRecDepth 100000
theorem relaxAll_cons {n : Nat} {p : Int} {l : List S34} {x : Int} (h0 : 0 ≤ x) (h1 : x < l.length) (S : Int) (far edges : List Int) : relaxAll n p (l.drop x.toNat) S far edges = (relax1 n p (rd_T34 l x) S far edges).bind fun st => relaxAll n p (l.drop (x + 1).toNat) st.1 st.2.1 st.2.2 := by
  obtain ⟨i, rfl⟩ := Int.eq_ofNat_of_zero_le h0
  have hi : i < l.length := by omega
  have e : ((i : Int) + 1).toNat = i + 1 := by omega
  have g : rd_T34 l (i : Int) = l[i] := by unfold rd_T34; rw [Int.toNat_natCast, List.getD_eq_getElem?_getD, List.getElem?_eq_getElem hi]; rfl
  rw [e, g, Int.toNat_natCast, List.drop_eq_getElem_cons hi]
  rfl
theorem far1 {w : World} {g g' t t' i j : Nat} {cs cs' : Array Value} {u v : Value} (h : w.heap[g]? = some (.cells cs t (0, 0))) (h' : w.heap[g']? = some (.cells cs' t' (0, 0))) (ht : t ≠ t') (hc : w.cell? ⟨g, i, none⟩ = some v) : (w.setCell ⟨g', j, none⟩ u).cell? ⟨g, i, none⟩ = some v := (cell_far (p := ⟨g', j, none⟩) (a := ⟨g, i, none⟩) (blk_ne h h' ht) u).trans hc
theorem gen2_ {P c K a} {W : World} {φ : World → Prop} (hφ : φ W) (h : ∀ w' : World, φ w' → Code.wp P c K a w') : Code.wp P c K a W := h W hφ
def paths_run.T8 : Bool × List (List Nat × List Nat) := (true, [([], []), ([0], [0]), ([1], [1]), ([2], [2]), ([], []), ([4], [4]), ([], []), ([6], [6]), ([7], [7]), ([8], [8]), ([], []), ([10], [10]), ([], []), ([12], [12]), ([13], [13]), ([14], [14]), ([], []), ([15, 16], [15, 16]), ([17], [17]), ([], []), ([19], [19]), ([18, 20], [18, 20]), ([], []), ([22], [22]), ([23], [23]), ([24], [24]), ([], []), ([25, 26], [25, 26]), ([27], [27]), ([28], [28]), ([3, 5, 0, 1, 2, 3, 4, 5, 9, 12, 13, 14, 15, 16, 17, 18, 19, 20, 21, 25, 28], [3, 5]), ([30, 21, 0, 1, 2, 3, 4, 5, 9, 12, 13, 14, 15, 16, 17, 18, 19, 20, 21, 25, 28], [21, 30]), ([9, 11, 0, 1, 2, 3, 4, 5, 6, 7, 8, 9, 10, 11, 12, 13, 14, 15, 16, 17, 18, 19, 20, 21, 22, 23, 24, 25, 26, 27, 28, 29, 30, 31], [9, 11]), ([32, 29, 31, 0, 1, 2, 3, 4, 5, 6, 7, 8, 9, 10, 11, 12, 13, 14, 15, 16, 17, 18, 19, 20, 21, 22, 23, 24, 25, 26, 27, 28, 29, 30, 31], [29, 32])])
def paths_run.B8 : List Nat := [0, 1, 3, 7, 0, 16, 0, 64, 192, 448, 0, 1024, 0, 4096, 12288, 28672, 0, 126976, 258048, 0, 524288, 2093056, 0, 4194304, 12582912, 29360128, 0, 130023424, 264241152, 532676608, 536867839, 1610609663, 4294967295, 8589934591]
theorem paths_run.tab8 : rtab .any (opsOf Tryd.f24 8) = paths_run.T8 := by kernel_rfl
theorem paths_run.bits8 : waitsOk paths_run.T8.2 paths_run.B8 = true := by kernel_rfl
def paths_run.T11 : Bool × List (List Nat × List Nat) := (true, [([], []), ([0], [0]), ([1], [1]), ([], []), ([3], [3]), ([2, 4], [2, 4])])
def paths_run.B11 : List Nat := [0, 1, 3, 0, 8, 31]
theorem paths_run.tab11 : rtab .any (opsOf Tryd.f24 11) = paths_run.T11 := by kernel_rfl
theorem paths_run.bits11 : waitsOk paths_run.T11.2 paths_run.B11 = true := by kernel_rfl
def RunPost (n : Nat) (gs gf gd ge : Nat) (vs : List Value) (rows : List (List S34)) (r : Option (List Int × List Int)) (w0 : World) (e : Ending) (w' : World) : Prop :=
  e = .returned (.bool r.isSome) ∧ (∀ fe, r = some fe → Bd n fe.1 fe.2 ∧ ∃ S', Srch w0.heap.size w' gs gf gd ge n S' vs rows fe.1 fe.2) ∧ Below w0.heap.size w0 w'
theorem paths_run.calls (n gs gf gd ge : Nat) (vs : List Value) (rows : List (List S34)) (S0 : Int) (far0 edges0 : List Int) (k : Nat) (r : Option (List Int × List Int)) (w0 w : World) (hn : 1 ≤ n ∧ n ≤ 64) (hB : Below w0.heap.size w0 w) (hT : TabOK w0)
    (hs : Srch w0.heap.size w gs gf gd ge n S0 vs rows far0 edges0) (hb : Bd n far0 edges0) (hp : Pts n S0) (he : ∀ q, q < n → (rows.getD q []).length ≤ 1000 ∧ ∀ e ∈ rows.getD q [], EOK n e) (h : runF n rows k S0 far0 edges0 = some r) :
    Calls Tryd.prog 24 #[.pointer (some ⟨gs, 0, none⟩)] w (RunPost n gs gf gd ge vs rows r w0) := by
  have hu34 := Tryd.underlying34
  have hu44 := Tryd.underlying44
  have HN := Aside0.mk hn
  have HB := Aside0.mk hB
  have GT := Aside0.mk hT
  have HS := Aside0.mk hs
  have HD := Aside0.mk hb
  have HP := Aside0.mk hp
  have HE := Aside0.mk he
  have H' := Aside0.mk h
  clear hn hB hT hs hb hp he h
  go_enter Tryd.func24, Tryd.ntmps24
  go_wp2
  go_loopg [3] k (fun kq v3 w' => ∃ (S : Int) (far edges : List Int), Aside0 (runF n rows kq S far edges = some r) ∧ Aside0 (kq ≤ k) ∧ Aside0 (Srch w0.heap.size w' gs gf gd ge n S vs rows far edges) ∧ Aside0 (Bd n far edges) ∧ Aside0 (Pts n S) ∧ Aside0 (Below w0.heap.size w0 w'))
  case atStart => exact ⟨S0, far0, edges0, H', ⟨Nat.le_refl _⟩, HS, HD, HP, HB⟩
  case round =>
    clear H' HS HD HP HB
    obtain ⟨S, far, edges, HA, HK1, HS, HD, HP, HB⟩ := hrel
    cases gk with
    | zero => exact absurd HA.out (by simp [runF])
    | succ k1 =>
      have H := HA.out
      clear HA
      by_cases c : S = 0
      · subst c
        simp only [runF, if_true] at H
        have hr := Aside0.mk (Option.some.inj H)
        clear H
        have hys := X.k4 (Aside0.mk HS.out.hs)
        go_wp2
        go_ret
        exact ⟨by rw [← hr.out]; rfl, fun fe hfe => by rw [← hr.out] at hfe; cases hfe; exact ⟨HD.out, _, HS.out⟩, bf HB⟩
      · obtain ⟨p, hp⟩ : ∃ p, lowOf S = p := ⟨_, rfl⟩
        have HQ := Aside0.mk (HP.out.low c)
        have HR0 := Aside0.mk HP.out.choose_spec.1.range
        simp only [runF, if_neg c] at H
        have cb : (S != 0) = true := bne_iff_ne.mpr c
        have cb2 : (S == 0) = false := beq_eq_false_iff_ne.mpr c
        clear c
        obtain ⟨R, hR⟩ : ∃ R, relaxAll n (lowOf S) (rows.getD (lowOf S).toNat []) (sDrop S (lowOf S)) far edges = R := ⟨_, rfl⟩
        rw [hR] at H
        have HP2 := Aside0.mk (HP.out.drop HQ.out.1 HQ.out.2.2)
        rw [hp] at hR HQ HP2
        have HL := Aside0.mk hp
        obtain ⟨row, hrow⟩ : ∃ l, rows.getD p.toNat [] = l := ⟨_, rfl⟩
        rw [hrow] at hR
        have HE2 := Aside0.mk (HE.out p.toNat (by have := HQ.out; omega))
        have hrr := HS.out.hr p.toNat (by have := HQ.out; omega)
        rw [hrow] at HE2 hrr
        obtain ⟨A, cA, ev⟩ := Kd.R_slice hrr
        have HV := Aside0.mk ev
        have HW := Aside0.mk hrow
        have HRR := Aside0.mk hR
        have HH := Aside0.mk H
        clear hp hrow hR H hrr ev
        have hys := X.k4 (Aside0.mk HS.out.hs)
        have p0 := eq_true HQ.out.1
        have p1 := eq_true HQ.out.2.1
        go_upto_region 4 with (first | (go_at_call 29; refine (paths_set_least.calls gs S _ (X.k4 (Aside0.mk HS.out.hs)).1 HR0.out.1 HR0.out.2 (GT.out.below HB.out)).mono ?_; rintro e w' ⟨he, rfl⟩; rw [HL.out] at he; subst he) | (go_at_call 30; refine (paths_set_drop.calls gs S p _ (X.k4 (Aside0.mk HS.out.hs)).1 (blk_frozen HS.out.hs 0) HQ.out.1 HQ.out.2.2).mono ?_; rintro e w' ⟨rfl, rfl⟩))
        refine gen2_ (φ := fun w' => Aside0 (Srch w0.heap.size w' gs gf gd ge n (sDrop S p) vs rows far edges) ∧ Aside0 (Below w0.heap.size w0 w')) ⟨⟨(HS.out.setS _).drew⟩, ⟨below_drew1 (below_set HB.out HS.out.bs)⟩⟩ ?_
        clear hys HS HB cb cb2
        rintro w4 ⟨HS, HB⟩
        have hys := X.k4 (Aside0.mk HS.out.hs)
        have hyf := HS.out.cf p HQ.out.1 HQ.out.2.1
        rw [HV.out] at hyf
        go_wp2
        clear hyf hys
        go_loopg [28] (row.length + 1) (fun kq v28 w' => ∃ (x S1 : Int) (fa ed : List Int), v28 = .int .i64 x ∧ Aside0 (0 ≤ x ∧ x + kq = row.length + 1 ∧ x ≤ row.length) ∧ Aside0 (relaxAll n p (row.drop x.toNat) S1 fa ed = R) ∧ Aside0 (Srch w0.heap.size w' gs gf gd ge n S1 vs rows fa ed) ∧ Aside0 (Bd n fa ed) ∧ Aside0 (Pts n S1) ∧ Aside0 (Below w0.heap.size w0 w'))
        case atStart => exact ⟨0, sDrop S p, far, edges, (aq), ⟨⟨by omega, by omega, by omega⟩⟩, ⟨by simpa using HRR.out⟩, HS, HD, HP2, HB⟩
        case round =>
          clear HS HD HP2 HB HRR HP
          obtain ⟨x, S1, fa, ed, rfl, HX, HRR, HS, HD, HP, HB⟩ := hrel
          cases gk with
          | zero => exact absurd HX.out (by rintro ⟨_, _, _⟩; omega)
          | succ k2 =>
            by_cases c : x < (row.length : Int)
            · have c1 : decide (x < (row.length : Int)) = true := decide_eq_true c
              have x0 := HX.out.1
              have HC := Aside0.mk c
              have HM := Aside0.mk (HE2.out.2 _ (rd_mem x0 c))
              have hrr := HS.out.hr p.toNat (by have := HQ.out; omega)
              rw [HV.out, HW.out] at hrr
              obtain ⟨ad, ea_, hx0, hx1, hx2⟩ := at_T34 (Kd.R_reads' hrr).2.2 x x0 c
              cases ea_
              clear hrr
              have HU := Aside0.mk (⟨by have := HE2.out.1; unfold wrap64; omega, by omega⟩ : wrap64 (x + 1) = x + 1 ∧ x + 1 ≤ row.length)
              have H := HRR.out
              rw [relaxAll_cons x0 c] at H
              obtain ⟨e0, he0⟩ : ∃ y, (rd_T34 row x).f0 = y := ⟨_, rfl⟩
              obtain ⟨e1, he1⟩ : ∃ y, (rd_T34 row x).f1 = y := ⟨_, rfl⟩
              obtain ⟨e2, he2⟩ : ∃ y, (rd_T34 row x).f2 = y := ⟨_, rfl⟩
              obtain ⟨fp, hfp⟩ : ∃ y, rd fa p = y := ⟨_, rfl⟩
              obtain ⟨ft, hft⟩ : ∃ y, rd fa e1 = y := ⟨_, rfl⟩
              obtain ⟨ep, hep⟩ : ∃ y, rd ed p = y := ⟨_, rfl⟩
              have HF := Aside0.mk (⟨hfp, hft, hep⟩ : rd fa p = fp ∧ rd fa e1 = ft ∧ rd ed p = ep)
              have HG := Aside0.mk (⟨he1, he2⟩ : (rd_T34 row x).f1 = e1 ∧ (rd_T34 row x).f2 = e2)
              have HM2 := HM.out
              unfold EOK at HM2
              rw [he1, he2] at HM2
              unfold relax1 at H
              rw [he1, he2, hfp, hft, hep] at H
              rw [he0] at hx0
              rw [he1] at hx1
              rw [he2] at hx2
              have HBp := HD.out.2.2 p HQ.out.1 HQ.out.2.1
              rw [hfp, hep] at HBp
              have hsum : IntKind.i64.wrap (fp + e2) = fp + e2 := by rw [IntKind.wrap_i64]; have := HN.out; omega
              have hsum2 : IntKind.i64.wrap (ep + 1) = ep + 1 := by rw [IntKind.wrap_i64]; have := HN.out; omega
              have HZ := Aside0.mk (⟨HBp, HM2⟩ : (-1 ≤ fp ∧ fp ≤ 6000 * ep ∧ 0 ≤ ep ∧ ep < n) ∧ (0 ≤ e1 ∧ e1 < n ∧ 0 ≤ e2 ∧ e2 ≤ 6000))
              have t0 := eq_true HM2.1
              have t1 := eq_true HM2.2.1
              have hpc : rd fa p = fp := hfp
              clear he0 he1 he2 HBp HM2 hfp hft hep hpc
              have HH2 := Aside0.mk H
              clear H
              replace x0 := eq_true x0
              replace c := eq_true c
              go_upto_region 7 with (fail)
              obtain ⟨g5, hg5⟩ : ∃ g, g = wr.heap.size := ⟨_, rfl⟩
              rw [← hg5]
              have HG5 := Aside0.mk hg5
              clear hg5
              refine gen2_ (φ := fun w' => Aside0 (w'.heap[g5]? = some (.cells #[.int .i64 e0, .int .i64 e1, .int .i64 e2] 34 (0, 0))) ∧ Aside0 (Srch w0.heap.size w' gs gf gd ge n S1 vs rows fa ed) ∧ Aside0 (Below w0.heap.size w0 w')) ⟨⟨by rw [HG5.out]; exact blk_new _ _⟩, ⟨HS.out.alloc _⟩, ⟨bf HB⟩⟩ ?_
              clear HG5 HB HS hx0 hx1 hx2
              rintro w8 ⟨BK5, HS, HB⟩
              have hy5 := X.k3 BK5
              have hys := X.k4 (Aside0.mk HS.out.hs)
              have hyp := HS.out.cd p HQ.out.1 HQ.out.2.1
              have hyt := HS.out.cd e1 HZ.out.2.1 HZ.out.2.2.1
              have hyq := HS.out.ce p HQ.out.1 HQ.out.2.1
              rw [HF.out.1] at hyp
              rw [HF.out.2.1] at hyt
              rw [HF.out.2.2] at hyq
              by_cases c2 : fp + e2 ≤ ft
              · have H := HH2.out
                rw [if_pos c2] at H
                have c2b : decide (fp + e2 ≤ ft) = true := decide_eq_true c2
                have HH3 := Aside0.mk (show relaxAll n p (row.drop (x + 1).toNat) S1 fa ed = R from H)
                clear H c2
                go_quiet (fail)
                go_wp2
                go_roundg k2
                case measure => omega
                case rel => exact ⟨wrap64 (x + 1), S1, fa, ed, (aq), ⟨by rw [HU.out.1]; have := HX.out; have := HU.out; exact ⟨by omega, by omega, by omega⟩⟩, ⟨by rw [HU.out.1]; exact HH3.out⟩, ⟨HS.out.drewN _⟩, HD, HP, ⟨bf HB⟩⟩
              · have H := HH2.out
                rw [if_neg c2] at H
                have c2b : decide (fp + e2 ≤ ft) = false := decide_eq_false c2
                have HC2 := Aside0.mk c2
                clear c2
                go_quiet (fail)
                go_upto_region 8 with (fail)
                refine gen2_ (φ := fun w' => Aside0 (w'.heap[g5]? = some (.cells #[.int .i64 e0, .int .i64 e1, .int .i64 e2] 34 (0, 0))) ∧ Aside0 (Srch w0.heap.size w' gs gf gd ge n S1 vs rows fa ed) ∧ Aside0 (Below w0.heap.size w0 w')) ⟨⟨blk_drewN BK5.out _⟩, ⟨HS.out.drewN _⟩, ⟨bf HB⟩⟩ ?_
                clear hy5 hys hyp hyt hyq BK5 HS HB c2b
                rintro w8 ⟨BK5, HS, HB⟩
                have hy5 := X.k3 BK5
                have hys := X.k4 (Aside0.mk HS.out.hs)
                have hyp := HS.out.cd p HQ.out.1 HQ.out.2.1
                have hyt := HS.out.cd e1 HZ.out.2.1 HZ.out.2.2.1
                have hyq := HS.out.ce p HQ.out.1 HQ.out.2.1
                rw [HF.out.1] at hyp
                rw [HF.out.2.1] at hyt
                rw [HF.out.2.2] at hyq
                refine start_ (n := 34) (S := fun w' => c_ w' gs 1 (.slice (some ⟨gf, 0, none⟩) n n) ∧ c_ w' gs 2 (.slice (some ⟨gd, 0, none⟩) n n) ∧ c_ w' gs 3 (.slice (some ⟨ge, 0, none⟩) n n) ∧ c_ w' g5 1 (.int .i64 e1) ∧ c_ w' g5 2 (.int .i64 e2) ∧ c_ w' ge p.toNat (.int .i64 ep)) (ds := [33]) (m_ 34 0) (by kernel_rfl) rfl rfl ⟨ct (Aside0.mk HS.out.hs) 1, ct (Aside0.mk HS.out.hs) 2, ct (Aside0.mk HS.out.hs) 3, ct BK5 1, ct BK5 2, hyq⟩ (fun hHeld => ?_); refine with_tabW paths_run.tab8 paths_run.bits8 (fun HT_ HW_ => ?_)
                replace HS := Aside0.mk HS.out.drew
                replace BK5 := Aside0.mk (blk_drew BK5.out)
                replace HB := Aside0.mk (below_drew1 HB.out)
                clear hyp hyq hyt hys hy5
                generalize w8.drew = w9 at HS BK5 HB hHeld ⊢
                refine pu_ 0 (some 51) (m_ 34 1) rfl rfl (ao HT_) ?_
                refine pu_ 1 (some 52) (m_ 34 3) rfl rfl (ao HT_) ?_
                refine pu_ 2 (some 53) (m_ 34 7) rfl rfl (ao HT_) ?_
                refine pu_ 4 (some 55) (m_ 34 23) rfl rfl (ao HT_) ?_
                refine pu_ 6 (some 57) (m_ 34 87) rfl rfl (ao HT_) ?_
                refine pu_ 7 (some 58) (m_ 34 215) rfl rfl (ao HT_) ?_
                refine pu_ 8 (some 59) (m_ 34 471) rfl rfl (ao HT_) ?_
                refine pu_ 10 (some 61) (m_ 34 1495) rfl rfl (ao HT_) ?_
                refine pu_ 12 (some 63) (m_ 34 5591) rfl rfl (ao HT_) ?_
                refine pu_ 13 (some 64) (m_ 34 13783) rfl rfl (ao HT_) ?_
                refine pu_ 14 (some 65) (m_ 34 30167) rfl rfl (ao HT_) ?_
                refine pu_ 16 (some 67) (m_ 34 95703) rfl rfl (ao HT_) ?_
                refine pu_ 19 (some 70) (m_ 34 619991) rfl rfl (ao HT_) ?_
                refine pu_ 22 (some 73) (m_ 34 4814295) rfl rfl (ao HT_) ?_
                refine pu_ 23 (some 74) (m_ 34 13202903) rfl rfl (ao HT_) ?_
                refine pu_ 24 (some 75) (m_ 34 29980119) rfl rfl (ao HT_) ?_
                refine pu_ 26 (some 77) (m_ 34 97088983) rfl rfl (ao HT_) ?_
                refine tk_ 3 (some 54) (m_ 34 97088991) rfl rfl (tw HT_ HW_) hHeld ?_
                refine tk_ 5 (some 56) (m_ 34 97089023) rfl rfl (tw HT_ HW_) hHeld ?_
                refine tk_ 9 (some 60) (m_ 34 97089535) rfl rfl (tw HT_ HW_) hHeld ?_
                refine tk_ 11 (some 62) (m_ 34 97091583) rfl rfl (tw HT_ HW_) hHeld ?_
                refine tk_ 15 (some 66) (m_ 34 97124351) rfl rfl (tw HT_ HW_) hHeld ?_
                refine pu_ 17 (some 68) (m_ 34 97255423) rfl rfl (ao HT_) ?_
                refine tk_ 20 (some 71) (m_ 34 98303999) rfl rfl (tw HT_ HW_) hHeld ?_
                refine tk_ 25 (some 76) (m_ 34 131858431) rfl rfl (tw HT_ HW_) hHeld ?_
                refine pu_ 27 (some 78) (m_ 34 266076159) rfl rfl (ao HT_) ?_
                refine tk_ 28 (some 79) (m_ 34 534511615) rfl rfl (tw HT_ HW_) hHeld ?_
                refine pu_ 29 (some 80) (m_ 34 1071382527) rfl rfl (ao HT_) ?_
                refine o1_ 18 (some 69) (m_ 34 1071644671) rfl rfl (oo HT_) (fun K hK => ?_)
                have hyp9 := HS.out.cd p (of_eq_true p0) (of_eq_true p1)
                rw [HF.out.1] at hyp9
                refine event_step (by rfl) (v := .int .i64 fp) (w1 := w9) ?hr ?_
                case hr => first | (go_simp; done) | (go_simp; rfl)
                clear hyp9
                refine hK.out _ _ hHeld (fun hHeld => ?_)
                clear hK K
                refine nr_ (some 69) ?_
                refine pu_ 21 (some 72) (m_ 34 1073741823) rfl rfl (ao HT_) ?_
                refine pu_ 30 (some 81) (m_ 34 2147483647) rfl rfl (ao HT_) ?_
                have hyt := HS.out.cd e1 (of_eq_true t0) (of_eq_true t1)
                have hyz := blk_frozen HS.out.hd e1.toNat
                refine o1_ 31 (none) (m_ 34 4294967295) rfl rfl (oo HT_) (fun K hK => ?_)
                refine skip_ (w1 := ?_) (by rfl) rfl ?_ ?_
                rotate_left
                · go_simp
                  rfl
                refine hK.out _ _ ⟨far1 HS.out.hs HS.out.hd (by decide) hHeld.1, far1 HS.out.hs HS.out.hd (by decide) hHeld.2.1, far1 HS.out.hs HS.out.hd (by decide) hHeld.2.2.1, far1 BK5.out HS.out.hd (by decide) hHeld.2.2.2.1, far1 BK5.out HS.out.hd (by decide) hHeld.2.2.2.2.1, far1 HS.out.he HS.out.hd (by decide) hHeld.2.2.2.2.2⟩ (fun hHeld2 => ?_)
                clear hK K hHeld
                refine pu_ 32 (some 82) (m_ 34 8589934591) rfl rfl (ao HT_) ?_
                have hyu := (HS.out.setD e1.toNat (fp + e2)).ce e1 (of_eq_true t0) (of_eq_true t1)
                have hyv := blk_frozen (HS.out.setD e1.toNat (fp + e2)).he e1.toNat
                refine last_ (i := 33) (N := none) (m_ 34 17179869183) rfl rfl (oo HT_) (by decide) (fun K hK => ?_)
                refine skip_ (w1 := ?_) (by rfl) rfl ?_ ?_
                rotate_left
                · go_simp
                  rfl
                refine hK.out _ _ ?_
                clear hK K
                refine done_ (done_of HT_.out (by kernel_rfl)) ?_
                go_upto_region 9 with (fail)
                refine gen2_ (φ := fun w' => Aside0 (w'.heap[g5]? = some (.cells #[.int .i64 e0, .int .i64 e1, .int .i64 e2] 34 (0, 0))) ∧ Aside0 (Srch w0.heap.size w' gs gf gd ge n S1 vs rows (fa.set e1.toNat (fp + e2)) (ed.set e1.toNat (ep + 1))) ∧ Aside0 (Below w0.heap.size w0 w')) ⟨⟨blk_far (blk_far BK5.out (blk_ne BK5.out HS.out.hd (by decide)) _) (blk_ne BK5.out HS.out.he (by decide)) _⟩, ⟨(HS.out.setD _ _).setE _ _⟩, ⟨below_set (below_set HB.out HS.out.bd) HS.out.be⟩⟩ ?_
                clear hHeld2 hyt hyz hyu hyv BK5 HB
                rintro w10 ⟨BK5, HS, HB⟩
                have hy5 := X.k3 BK5
                have hys := X.k4 (Aside0.mk HS.out.hs)
                have hyu := HS.out.ce e1 HZ.out.2.1 HZ.out.2.2.1
                rw [rd_set HZ.out.2.1 (by rw [HD.out.2.1]; exact HZ.out.2.2.1) HZ.out.2.1, if_pos rfl] at hyu
                by_cases c3 : (n : Int) ≤ ep + 1
                · rw [if_pos c3] at H
                  have c3b : decide ((n : Int) ≤ ep + 1) = true := decide_eq_true c3
                  have hrn : r = none := by
                    have H2 := HH.out
                    rw [← (show none = R from H)] at H2
                    exact (Option.some.inj H2).symm
                  have HRN := Aside0.mk hrn
                  clear H c3 hrn
                  go_quiet (fail)
                  go_wp2
                  go_ret
                  exact ⟨by rw [HRN.out]; rfl, (fun fe hfe => by rw [HRN.out] at hfe; cases hfe), bf HB⟩
                · rw [if_neg c3] at H
                  have c3b : decide ((n : Int) ≤ ep + 1) = false := decide_eq_false c3
                  have HC3 := Aside0.mk c3
                  have HH3 := Aside0.mk (show relaxAll n p (row.drop (x + 1).toNat) (sPut S1 e1) (fa.set e1.toNat (fp + e2)) (ed.set e1.toNat (ep + 1)) = R from H)
                  clear H c3
                  go_quiet (fail)
                  go_upto_region 11 with (fail)
                  refine gen2_ (φ := fun w' => Aside0 (w'.heap[g5]? = some (.cells #[.int .i64 e0, .int .i64 e1, .int .i64 e2] 34 (0, 0))) ∧ Aside0 (Srch w0.heap.size w' gs gf gd ge n S1 vs rows (fa.set e1.toNat (fp + e2)) (ed.set e1.toNat (ep + 1))) ∧ Aside0 (Below w0.heap.size w0 w')) ⟨⟨blk_drewN BK5.out _⟩, ⟨HS.out.drewN _⟩, ⟨bf HB⟩⟩ ?_
                  clear hy5 hys hyu BK5 HS HB c3b
                  rintro w12 ⟨BK5, HS, HB⟩
                  have hy5 := X.k3 BK5
                  have hys := X.k4 (Aside0.mk HS.out.hs)
                  refine start_ (n := 6) (S := fun w' => c_ w' g5 1 (.int .i64 e1) ∧ c_ w' g5 1 (.int .i64 e1)) (ds := [5]) (m_ 6 0) (by kernel_rfl) rfl rfl ⟨ct BK5 1, ct BK5 1⟩ (fun hHeld => ?_); refine with_tabW paths_run.tab11 paths_run.bits11 (fun HT_ HW_ => ?_)
                  replace HS := Aside0.mk HS.out.drew
                  replace HB := Aside0.mk (below_drew1 HB.out)
                  generalize w12.drew = w13 at HS HB hHeld ⊢
                  refine pu_ 0 (some 97) (m_ 6 1) rfl rfl (ao HT_) ?_
                  refine pu_ 1 (some 98) (m_ 6 3) rfl rfl (ao HT_) ?_
                  refine pu_ 2 (some 99) (m_ 6 7) rfl rfl (ao HT_) ?_
                  refine pu_ 3 (some 100) (m_ 6 15) rfl rfl (ao HT_) ?_
                  refine tk_ 4 (some 101) (m_ 6 31) rfl rfl (tw HT_ HW_) hHeld ?_
                  refine last_ (i := 5) (N := some 102) (m_ 6 63) rfl rfl (oo HT_) (by decide) (fun K hK => ?_)
                  refine gs_ rfl Tryd.func18 (paths_set_put.calls gs S1 e1 _ (X.k4 (Aside0.mk HS.out.hs)).1 (blk_frozen HS.out.hs 0) (of_eq_true t0) (by have := of_eq_true t1; have := HN.out; omega)) ag ?_
                  rintro w14 rfl
                  refine hK.out _ _ ?_
                  clear hK K
                  refine nr_ (some 102) ?_
                  refine done_ (done_of HT_.out (by kernel_rfl)) ?_
                  go_wp2
                  go_roundg k2
                  case measure => omega
                  case rel => exact ⟨wrap64 (x + 1), sPut S1 e1, fa.set e1.toNat (fp + e2), ed.set e1.toNat (ep + 1), (aq), ⟨by rw [HU.out.1]; have := HX.out; have := HU.out; exact ⟨by omega, by omega, by omega⟩⟩, ⟨by rw [HU.out.1]; exact HH3.out⟩, ⟨(HS.out.setS _).drew⟩, ⟨by
                    have hh := HD.out.relax (p := p) HQ.out.1 HQ.out.2.1 HM.out (by rw [HF.out.2.2]; have := HC3.out; omega) (by rw [HF.out.1, HG.out.1, HG.out.2, HF.out.2.1]; have := HC2.out; omega)
                    rw [HG.out.1, HG.out.2, HF.out.1, HF.out.2.2] at hh
                    exact hh⟩, ⟨HP.out.put HZ.out.2.1 HZ.out.2.2.1 HN.out.2⟩, ⟨below_drew1 (below_set HB.out HS.out.bs)⟩⟩
            · have c1 : decide (x < (row.length : Int)) = false := decide_eq_false c
              have hR2 : some (S1, fa, ed) = R := by
                have H := HRR.out
                rw [List.drop_eq_nil_of_le (by have := HX.out; omega)] at H
                exact H
              have HH3 := Aside0.mk (show runF n rows k1 S1 fa ed = some r from by have H2 := HH.out; rw [← hR2] at H2; exact H2)
              clear hR2 c
              go_wp2
              go_roundg k1
              case measure => omega
              case rel => exact ⟨S1, fa, ed, HH3, ⟨by have := HK1.out; omega⟩, HS, HD, HP, HB⟩
end Go.Proofs.YtcdddmaibchjjaaDoor.X
