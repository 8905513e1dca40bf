import Derived.Test.YtcdddmaibchjjaaDoorProg
import Derived.Below
import Derived.Deep.Draws
import Derived.Deep.AppendLies
import Derived.Maps.AppendAt
import Derived.OwnWalk
import Derived.Laws.BytesArg
import Derived.Laws.MakeOwn
import Derived.Laws.OwnMore
import Derived.Deep.OwnRows
import Derived.Tactics
import Derived.Lib.ConvBytes
import Derived.Laws.Slices
import Derived.WalkKit
import Derived.KernelRfl
import Derived.RowKit3
import Derived.Deep.LoopGhost
import Derived.Deep.QuietTactic
import Derived.BigQuiet
import Derived.WideLaws
import Derived.Deep.DeepCutAuto
import Derived.Deep.CutBlock
import Derived.Deep.RegionHeld3
import Derived.Laws.Rows
import Derived.Lib.AppendStr
import Derived.ArgAppend
import Derived.Laws.IdiomCopy
import Derived.OrdersHeld
import Derived.Laws.BitsLemmas
import Derived.RowKit
import Derived.Test.YtcdddmaibchjjaaDoorXBase
import Derived.Test.YtcdddmaibchjjaaDoorV
import Derived.Test.YtcdddmaibchjjaaDoorX0
import Derived.RegionTactic
import Derived.ChangeAlike
import Derived.Deep.RegionLaw
import Derived.Test.YtcdddmaibchjjaaDoorH1
import Derived.Test.YtcdddmaibchjjaaDoorH2
import Derived.Test.YtcdddmaibchjjaaDoorH3
import Derived.Test.YtcdddmaibchjjaaDoorH4
namespace Go.Proofs.YtcdddmaibchjjaaDoor.X
open Go.RowKit Go.Proofs.YtcdddmaibchjjaaDoorW.PrintWords Go.Proofs.YtcdddmaibchjjaaDoorW.PrintLast Go.Proofs.YtcdddmaibchjjaaDoorW.PrintMore
set_option linter.unusedVariables false
set_option linter.unusedSimpArgs false
set_option maxHeartbeats 1000000
set_option maxRecDepth 100000
/-! ### open -/
theorem hinfo2 : (Tryd.prog.info? 2).map (fun i => (i.zero, i.size, i.bytes)) = some (some (.int .i64 0), 1, 8) := by kernel_rfl
theorem hinfo3 : (Tryd.prog.info? 3).map (fun i => (i.zero, i.size, i.bytes)) = some (some (.int .i64 0), 1, 8) := by kernel_rfl
theorem hinfo22 : (Tryd.prog.info? 22).map (fun i => (i.zero, i.size, i.bytes)) = some (some (.slice none 0 0), 1, 24) := by kernel_rfl
theorem hinfo34 : (Tryd.prog.info? 34).map (fun i => (i.zero, i.size, i.bytes)) = some (some (.agg #[.int .i64 0, .int .i64 0, .int .i64 0]), 3, 24) := by kernel_rfl
theorem made_one (z : Value) (hz : z.cells = #[z]) (n : Nat) : madeCells z.cells (n * 1) = (List.replicate n z).toArray := by
  rw [hz]
  unfold madeCells
  apply Array.toList_inj.1
  simp
  apply List.ext_getElem
  · simp
  · intro i h1 h2
    simp [Nat.mod_one]
theorem mk_any (t e : TypeId) (z : Value) (bytes : Nat) (ht : Tryd.prog.underlying t = some (.slice e)) (hinfo : (Tryd.prog.info? e).map (fun i => (i.zero, i.size, i.bytes)) = some (some z, 1, bytes)) (hz : z.cells = #[z]) (n : Nat) (hn : n ≤ 64) (hb : bytes ≤ 100) (W : World) :
    (Instr.makeSlice t (.int .i64 (n : Int)) (.int .i64 (n : Int))).run Tryd.prog W = .ok (.slice (some ⟨W.heap.size, 0, none⟩) n n) (W.alloc (.cells (List.replicate n z).toArray e)) := by
  obtain ⟨i0, hi, hzz⟩ := Option.map_eq_some_iff.1 hinfo
  simp only [Prod.mk.injEq] at hzz
  obtain ⟨hz0, hz1, hz2⟩ := hzz
  have hb2 : bytes * n ≤ 100 * 64 := Nat.mul_le_mul hb hn
  have hr := run_make (P := Tryd.prog) W t e i0 z ht hi hz0 .i64 .i64 (n : Int) (n : Int) (by omega) (by omega) (by rw [hz2, ← Int.natCast_mul]; omega) (by omega)
  simp only [Int.toNat_natCast] at hr
  rw [hr, hz1, made_one z hz]
def rowsOf (n : Nat) (l : List S34) : List (List S34) := (List.range n).map fun (p : Nat) => l.filter fun e => decide (e.f0 = (p : Int))
theorem rowsOf_len (n : Nat) (l : List S34) : (rowsOf n l).length = n := by simp [rowsOf]
theorem rowsOf_get (n : Nat) (l : List S34) {p : Nat} (hp : p < n) : (rowsOf n l).getD p [] = l.filter fun e => decide (e.f0 = (p : Int)) := by
  simp [rowsOf, List.getD_eq_getElem?_getD, hp]
theorem rowsOf_snoc (n : Nat) (l : List S34) (e : S34) {p : Nat} (hp : p < n) (he : e.f0 = (p : Int)) : rowsOf n (l ++ [e]) = (rowsOf n l).set p (((rowsOf n l).getD p []) ++ [e]) := by
  rw [rowsOf_get n l hp]
  apply List.ext_getElem
  · simp [rowsOf]
  · intro i h1 h2
    rw [List.getElem_set]
    by_cases c : p = i
    · subst c
      simp [rowsOf, he]
    · have : ¬ e.f0 = (i : Int) := by omega
      simp [rowsOf, c, this]
theorem new_at {W : World} {o : Obj} {k : Nat} (hk : k = W.heap.size) : (W.alloc o).heap[k]? = some o := hk ▸ blk_new W o
theorem Srch.start {b : Nat} {w : World} {gs gf gd ge n : Nat} (hs : w.heap[gs]? = some (.cells #[.int .u64 0, .slice (some ⟨gf, 0, none⟩) n n, .slice (some ⟨gd, 0, none⟩) n n, .slice (some ⟨ge, 0, none⟩) n n] 44 (0, 0)))
    (hf : w.heap[gf]? = some (.cells (Array.replicate n nilS) 22 (0, 0))) (hd : w.heap[gd]? = some (.cells (Array.replicate n (.int .i64 0)) 2 (0, 0))) (he : w.heap[ge]? = some (.cells (Array.replicate n (.int .i64 0)) 3 (0, 0)))
    (bs : b ≤ gs) (bf : b ≤ gf) (bd : b ≤ gd) (be : b ≤ ge) : Srch b w gs gf gd ge n 0 (List.replicate n nilS) (rowsOf n []) (List.replicate n 0) (List.replicate n 0) := by
  have hn : ∀ q, (List.replicate n nilS).getD q nilS = nilS := fun q => by
    rw [List.getD_eq_getElem?_getD, List.getElem?_replicate]
    split <;> rfl
  refine ⟨hs, hf.trans (by simp), hd.trans (by simp [iA]), he.trans (by simp [iA]), by simp, by simp [rowsOf], by simp, by simp, bs, bf, bd, be, fun p hp => ?_⟩
  rw [hn, rowsOf_get n [] hp]
  exact Kd.R_nil _ _ _ _ _
theorem take_rd {l : List S34} {x : Int} (h0 : 0 ≤ x) (h1 : x < l.length) : l.take (x + 1).toNat = l.take x.toNat ++ [rd_T34 l x] := by
  obtain ⟨i, rfl⟩ := Int.eq_ofNat_of_zero_le h0
  have hi : i < l.length := by omega
  have e : ((i : Int) + 1).toNat = i + 1 := by omega
  rw [e, Int.toNat_natCast, List.take_succ_eq_append_getElem hi]
  unfold rd_T34
  rw [Int.toNat_natCast, List.getD_eq_getElem?_getD, List.getElem?_eq_getElem hi]
  rfl
theorem s34_eq {y : S34} {a b c : Int} (h0 : y.f0 = a) (h1 : y.f1 = b) (h2 : y.f2 = c) : y = ⟨a, b, c⟩ := by
  cases y
  subst h0 h1 h2
  rfl
theorem set_rep {n : Nat} {x : Int} (h0 : 0 ≤ x) (h1 : x < n) : (List.replicate x.toNat (-1) ++ List.replicate (n - x.toNat) 0 : List Int).set x.toNat (-1) = List.replicate (x + 1).toNat (-1) ++ List.replicate (n - (x + 1).toNat) 0 := by
  obtain ⟨i, rfl⟩ := Int.eq_ofNat_of_zero_le h0
  have e : ((i : Int) + 1).toNat = i + 1 := by omega
  rw [e, Int.toNat_natCast, List.set_append_right _ _ (by simp)]
  simp only [List.length_replicate, Nat.sub_self]
  obtain ⟨d, hd⟩ : ∃ d, n - i = d + 1 := ⟨n - i - 1, by omega⟩
  rw [hd, List.replicate_succ, List.set_cons_zero, List.replicate_succ', List.append_assoc, show n - (i + 1) = d by omega]
  rfl
theorem rows_le (n : Nat) (l : List S34) (p : Nat) (m : List S34) (h : l.length ≤ m.length) : ((rowsOf n l).getD p []).length ≤ m.length := by
  by_cases hp : p < n
  · rw [rowsOf_get n l hp]
    exact Nat.le_trans (List.length_filter_le _ _) h
  · rw [List.getD_eq_getElem?_getD, List.getElem?_eq_none (by rw [rowsOf_len]; omega)]
    exact Nat.zero_le _
def paths_open.T5 : Bool × List (List Nat × List Nat) := (true, [([], []), ([0], [0]), ([1], [1]), ([2], [2]), ([], []), ([4], [4]), ([], []), ([6], [6]), ([7], [7]), ([8], [8]), ([], []), ([10], [10]), ([9, 11], [9, 11]), ([12], [12]), ([], []), ([14], [14]), ([13, 15], [13, 15]), ([3, 5, 0, 1, 2, 3, 4, 5, 6, 7, 8, 9, 10, 11, 12, 13, 14, 15, 16], [3, 5]), ([17, 16, 16, 0, 1, 2, 3, 4, 5, 6, 7, 8, 9, 10, 11, 12, 13, 14, 15, 16], [16, 17])])
def paths_open.B5 : List Nat := [0, 1, 3, 7, 0, 16, 0, 64, 192, 448, 0, 1024, 4032, 8128, 0, 16384, 65472, 131071, 262143]
theorem paths_open.tab5 : rtab .any (opsOf Tryd.f23 5) = paths_open.T5 := by kernel_rfl
theorem paths_open.bits5 : waitsOk paths_open.T5.2 paths_open.B5 = true := by kernel_rfl
theorem gen1_ {P c K a} {W : World} {φ : World → Prop} (hφ : φ W) (h : ∀ w' : World, φ w' → Code.wp P c K a w') : Code.wp P c K a W := h W hφ
def OpenPost (n : Nat) (l : List S34) (w : World) (e : Ending) (w' : World) : Prop := ∃ gs gf gd ge vs, e = .returned (.pointer (some ⟨gs, 0, none⟩)) ∧ Srch w.heap.size w' gs gf gd ge n (sPut 0 0) vs (rowsOf n l) ((List.replicate n (-1)).set 0 0) (List.replicate n 0) ∧ Below w.heap.size w w'
theorem paths_open.calls (n : Nat) (A : Option Addr) (c0 : Nat) (l : List S34) (w : World) (h1 : 1 ≤ n) (h2 : n ≤ 64) (hl : l.length ≤ 1000) (hin : ∀ e ∈ l, 0 ≤ e.f0 ∧ e.f0 < n) (hr : Kd.C k34 w A l.length l) :
    Calls Tryd.prog 23 #[.int .i64 (n : Int), .slice A l.length c0] w (OpenPost n l w) := by
  have hu34 := Tryd.underlying34
  have hu44 := Tryd.underlying44
  have m42 := mk_any 42 22 (.slice none 0 0) 24 Tryd.underlying42 hinfo22 rfl n h2 (by decide)
  have m24 := mk_any 24 2 (.int .i64 0) 8 Tryd.underlying24 hinfo2 rfl n h2 (by decide)
  have m30 := mk_any 30 3 (.int .i64 0) 8 Tryd.underlying30 hinfo3 rfl n h2 (by decide)
  have HR := Aside0.mk hr
  have HN := Aside0.mk (And.intro h1 h2)
  have HL := Aside0.mk hl
  have HI := Aside0.mk hin
  clear hr h1 h2 hl hin
  have HB := Aside0.mk (Below.refl w.heap.size w)
  go_enter Tryd.func23, Tryd.ntmps23
  go_wp2
  go_cut [5] (fun v5 wc => ∃ gs : Nat, v5 = .pointer (some ⟨gs, 0, none⟩) ∧ Aside0 (∃ gf gd ge, Srch w.heap.size wc gs gf gd ge n 0 (List.replicate n nilS) (rowsOf n []) (List.replicate n 0) (List.replicate n 0)) ∧ Aside0 (Below w.heap.size w wc))
  case first =>
    go_region
    all_goals
      go_wp2
      go_meet
      case rel => exact ⟨_, rfl, ⟨_, _, _, Srch.start (by apply blk_drew; repeat (first | exact new_at (by simp; done) | apply blk_alloc)) (by apply blk_drew; repeat (first | exact new_at (by simp; done) | apply blk_alloc)) (by apply blk_drew; repeat (first | exact new_at (by simp; done) | apply blk_alloc)) (by apply blk_drew; repeat (first | exact new_at (by simp; done) | apply blk_alloc)) (by omega) (by omega) (by omega) (by omega)⟩, ⟨bf HB⟩⟩
  case rest =>
    clear m42 m24 m30 HB
    obtain ⟨gs, rfl, HS, HB⟩ := hcut
    obtain ⟨gf, gd, ge, hsr⟩ := HS.out
    clear HS
    have HS := Aside0.mk hsr
    clear hsr
    go_wp2
    go_loopg [19] (l.length + 1) (fun kq v19 w' => ∃ x : Int, v19 = .int .i64 x ∧ Aside0 (0 ≤ x ∧ x + kq = l.length + 1 ∧ x ≤ l.length) ∧ Aside0 (∃ vs, Srch w.heap.size w' gs gf gd ge n 0 vs (rowsOf n (l.take x.toNat)) (List.replicate n 0) (List.replicate n 0)) ∧ Aside0 (Below w.heap.size w w'))
    case atStart => exact ⟨0, (aq), ⟨⟨by omega, by omega, by omega⟩⟩, ⟨⟨_, by simpa using HS.out⟩⟩, ⟨bf HB⟩⟩
    case round =>
      clear HB HS
      obtain ⟨x, rfl, HX, HV, HB⟩ := hrel
      obtain ⟨vs, hsr⟩ := HV.out
      clear HV
      have HS := Aside0.mk hsr
      clear hsr
      cases gk with
      | zero => exact absurd HX.out (by rintro ⟨_, _, _⟩; omega)
      | succ k1 =>
        by_cases c : x < (l.length : Int)
        · have c1 : decide (x < (l.length : Int)) = true := decide_eq_true c
          have p0 := HX.out.1
          have HC := Aside0.mk c
          have HE := Aside0.mk (rd_mem p0 c)
          have HP := Aside0.mk (HI.out _ HE.out)
          obtain ⟨ad, ea_, hx0, hx1, hx2⟩ := at_T34 (Kd.C_below HR.out HB.out) x p0 c
          cases ea_
          have HW := Aside0.mk (⟨by have := HL.out; unfold wrap64; omega, by omega⟩ : wrap64 (x + 1) = x + 1 ∧ x + 1 ≤ l.length)
          obtain ⟨e0, he0⟩ : ∃ y, (rd_T34 l x).f0 = y := ⟨_, rfl⟩
          obtain ⟨e1, he1⟩ : ∃ y, (rd_T34 l x).f1 = y := ⟨_, rfl⟩
          obtain ⟨e2, he2⟩ : ∃ y, (rd_T34 l x).f2 = y := ⟨_, rfl⟩
          have HQ := Aside0.mk (⟨he0, he1, he2⟩ : (rd_T34 l x).f0 = e0 ∧ (rd_T34 l x).f1 = e1 ∧ (rd_T34 l x).f2 = e2)
          rw [he0] at hx0 HP
          rw [he1] at hx1
          rw [he2] at hx2
          clear he0 he1 he2
          replace p0 := eq_true p0
          replace c := eq_true c
          go_upto_region 5 with (fail)
          obtain ⟨g7, hg7⟩ : ∃ g, g = wr.heap.size := ⟨_, rfl⟩
          rw [← hg7]
          have HG7 := Aside0.mk hg7
          clear hg7
          refine gen1_ (φ := fun w' => Aside0 (w'.heap[g7]? = some (.cells #[.int .i64 e0, .int .i64 e1, .int .i64 e2] 34 (0, 0))) ∧ Aside0 (Srch w.heap.size w' gs gf gd ge n 0 vs (rowsOf n (l.take x.toNat)) (List.replicate n 0) (List.replicate n 0)) ∧ Aside0 (∀ q, q < n → some g7 ≠ (vs.getD q nilS).ownBlock) ∧ Aside0 (Below w.heap.size w w')) ⟨⟨by rw [HG7.out]; exact blk_new _ _⟩, ⟨HS.out.alloc _⟩, ⟨fun q hq he => by obtain ⟨_, ho⟩ := Kd.R_own (HS.out.hr q hq); have := own_lt ho g7 he.symm; have := HG7.out; omega⟩, ⟨bf HB⟩⟩ ?_
          clear HG7 HB HS hx0 hx1 hx2
          rintro w8 ⟨BK7, HS, N7, HB⟩
          have HG := Aside0.mk (rows_le n (l.take x.toNat) e0.toNat l (List.length_take_le' _ _))
          have hy7 := X.k3 BK7
          have hyl := X.k4 (Aside0.mk HS.out.hs)
          have hyf := HS.out.cf e0 HP.out.1 HP.out.2
          have hyz := blk_frozen HS.out.hf e0.toNat
          have q0 := eq_true HP.out.1
          have q1 := eq_true HP.out.2
          refine start_ (n := 19) (S := fun w' => c_ w' gs 0 (.int .u64 0) ∧ c_ w' gs 1 (.slice (some ⟨gf, 0, none⟩) n n) ∧ c_ w' g7 0 (.int .i64 e0) ∧ c_ w' g7 1 (.int .i64 e1) ∧ c_ w' g7 2 (.int .i64 e2) ∧ c_ w' gf e0.toNat (vs.getD e0.toNat nilS)) (ds := [18]) (m_ 19 0) (by kernel_rfl) rfl rfl ⟨ct (Aside0.mk HS.out.hs) 0, ct (Aside0.mk HS.out.hs) 1, ct BK7 0, ct BK7 1, ct BK7 2, hyf⟩ (fun hHeld => ?_); refine with_tabW paths_open.tab5 paths_open.bits5 (fun HT_ HW_ => ?_)
          replace HS := Aside0.mk HS.out.drew
          replace BK7 := Aside0.mk (blk_drew BK7.out)
          replace HB := Aside0.mk (below_drew1 HB.out)
          generalize w8.drew = w9 at HS BK7 HB hHeld ⊢
          refine pu_ 0 (some 23) (m_ 19 1) rfl rfl (ao HT_) ?_
          refine pu_ 1 (some 24) (m_ 19 3) rfl rfl (ao HT_) ?_
          refine pu_ 2 (some 25) (m_ 19 7) rfl rfl (ao HT_) ?_
          refine pu_ 4 (some 27) (m_ 19 23) rfl rfl (ao HT_) ?_
          refine pu_ 6 (some 29) (m_ 19 87) rfl rfl (ao HT_) ?_
          refine pu_ 7 (some 30) (m_ 19 215) rfl rfl (ao HT_) ?_
          refine pu_ 8 (some 31) (m_ 19 471) rfl rfl (ao HT_) ?_
          refine pu_ 10 (some 33) (m_ 19 1495) rfl rfl (ao HT_) ?_
          refine tk_ 3 (some 26) (m_ 19 1503) rfl rfl (tw HT_ HW_) hHeld ?_
          refine tk_ 5 (some 28) (m_ 19 1535) rfl rfl (tw HT_ HW_) hHeld ?_
          refine tk_ 9 (some 32) (m_ 19 2047) rfl rfl (tw HT_ HW_) hHeld ?_
          refine tk_ 11 (some 34) (m_ 19 4095) rfl rfl (tw HT_ HW_) hHeld ?_
          refine pu_ 12 (some 35) (m_ 19 8191) rfl rfl (ao HT_) ?_
          refine tk_ 13 (some 36) (m_ 19 16383) rfl rfl (tw HT_ HW_) hHeld ?_
          refine tk_ 14 (some 37) (m_ 19 32767) rfl rfl (tw HT_ HW_) hHeld ?_
          refine o1_ 15 (some 38) (m_ 19 65535) rfl rfl (oo HT_) (fun K hK => ?_)
          refine event_step (by rfl) (v := .slice (some ⟨w9.heap.size, 0, none⟩) 1 1) (w1 := w9.alloc (.cells #[.int .i64 e0, .int .i64 e1, .int .i64 e2] 34 (0, 0))) ?hr ?_
          case hr => first | (go_simp; done) | (go_simp; rfl)
          have HA := Aside0.mk (below_alloc (Below.refl w9.heap.size w9) (.cells #[.int .i64 e0, .int .i64 e1, .int .i64 e2] 34 (0, 0)))
          refine hK.out _ _ ⟨hx_ HA hHeld.1, hx_ HA hHeld.2.1, hx_ HA hHeld.2.2.1, hx_ HA hHeld.2.2.2.1, hx_ HA hHeld.2.2.2.2.1, hx_ HA hHeld.2.2.2.2.2⟩ (fun hHeld2 => ?_)
          clear hK K
          refine nr_ (some 38) ?_
          refine o1_ 16 (some 39) (m_ 19 131071) rfl rfl (oo HT_) (fun K hK => ?_)
          refine Kd.R_append_step k34 (w0 := w) w.heap.size (by rfl) (.tmp 36) (.tmp 38) 22 34 (.agg #[.int .i64 0, .int .i64 0, .int .i64 0]) 24 rfl Tryd.underlying22 hinfo34 rfl (by decide) (by decide) (vs.getD e0.toNat nilS) ((rowsOf n (l.take x.toNat)).getD e0.toNat []) ⟨e0, e1, e2⟩ [.int .i64 e0, .int .i64 e1, .int .i64 e2] (fun k => ∀ q, q < n → q ≠ e0.toNat → some k ≠ (vs.getD q nilS).ownBlock) (fun _ => False) rfl rfl (k34_mkM _ _ _ ⟨e0, e1, e2⟩) (fun _ h => h.elim) (fun k hk q hq _ he => by obtain ⟨_, ho⟩ := Kd.R_own (HS.out.hr q hq); have := own_lt ho k he.symm; omega) (HS.out.hr _ (by have := HP.out; omega)) HB.out HB.out.size (by have := HG.out; have := HL.out; omega) ?_
          intro v1 w10 hR10 hB10 hg10 hat10
          obtain ⟨A1, c10, ev1⟩ := Kd.R_slice hR10
          obtain ⟨m10, hm10⟩ : ∃ m, ((rowsOf n (l.take x.toNat)).getD e0.toNat [] ++ [(⟨e0, e1, e2⟩ : S34)]).length = m := ⟨_, rfl⟩
          rw [hm10] at ev1
          clear hm10
          subst ev1
          have hnr : ∀ {g t : Nat} {cs : Array Value}, w9.heap[g]? = some (.cells cs t (0, 0)) → (34 : Nat) ≠ t → some g ≠ (vs.getD e0.toNat nilS).ownBlock := fun hb ht => Kd.R_ne (HS.out.hr _ (by have := HP.out; omega)) hb ht
          refine hK.out _ _ ⟨hg10.cell hHeld.1 (hnr HS.out.hs (by decide)), hg10.cell hHeld.2.1 (hnr HS.out.hs (by decide)), hg10.cell hHeld.2.2.1 (N7.out _ (by have := HP.out; omega)), hg10.cell hHeld.2.2.2.1 (N7.out _ (by have := HP.out; omega)), hg10.cell hHeld.2.2.2.2.1 (N7.out _ (by have := HP.out; omega)), hg10.cell hHeld.2.2.2.2.2 (hnr HS.out.hf (by decide))⟩ (fun hHeld3 => ?_)
          clear hK K
          refine nr_ (some 39) ?_
          refine pu_ 17 (some 40) (m_ 19 262143) rfl rfl (ao HT_) ?_
          have hyz10 := blk_frozen (blk_grown HS.out.hf hg10 (hnr HS.out.hf (by decide))) e0.toNat
          have hyc10 := hHeld3.2.2.2.2.2
          have HS2 := Aside0.mk (HS.out.pushed (p := e0.toNat) (by have := HP.out; omega) hR10 hg10 hat10)
          have HB2 := Aside0.mk (fun v => below_set hB10 HS.out.bf : ∀ v : Value, Below w.heap.size w (w10.setCell ⟨gf, e0.toNat, none⟩ v))
          refine last_ (i := 18) (N := none) (m_ 19 524287) rfl rfl (oo HT_) (by decide) (fun K hK => ?_)
          refine skip_ (w1 := ?_) (by rfl) rfl ?_ ?_
          rotate_left
          · go_simp
            rfl
          refine hK.out _ _ ?_
          clear hK K
          refine done_ (done_of HT_.out (by kernel_rfl)) ?_
          try go_wp2
          go_roundg k1
          case measure => omega
          case rel => exact ⟨wrap64 (x + 1), (aq), ⟨by rw [HW.out.1]; have := HX.out; have := HW.out; exact ⟨by omega, by omega, by omega⟩⟩, ⟨⟨_, by
            rw [HW.out.1, take_rd HX.out.1 HC.out, rowsOf_snoc n _ _ (p := e0.toNat) (by have := HP.out; omega) (by rw [HQ.out.1]; have := HP.out; omega), (s34_eq HQ.out.1 HQ.out.2.1 HQ.out.2.2 : rd_T34 l x = ⟨e0, e1, e2⟩)]
            exact HS2.out⟩⟩, ⟨HB2.out _⟩⟩
        · have HE := Aside0.mk (show l.take x.toNat = l from List.take_of_length_le (by have := HX.out; omega))
          have c1 : decide (x < (l.length : Int)) = false := decide_eq_false c
          clear c
          rw [HE.out] at HS
          have hyl := X.k4 (Aside0.mk HS.out.hs)
          go_wp2
          clear hyl
          go_loopg [47] (n + 1) (fun kq v47 w' => ∃ x2 : Int, v47 = .int .i64 x2 ∧ Aside0 (0 ≤ x2 ∧ x2 + kq = n + 1 ∧ x2 ≤ n) ∧ Aside0 (Srch w.heap.size w' gs gf gd ge n 0 vs (rowsOf n l) (List.replicate x2.toNat (-1) ++ List.replicate (n - x2.toNat) 0) (List.replicate n 0)) ∧ Aside0 (Below w.heap.size w w'))
          case atStart => exact ⟨0, (aq), ⟨⟨by omega, by omega, by omega⟩⟩, ⟨by simpa using HS.out⟩, ⟨bf HB⟩⟩
          case round =>
            clear HB HS HX
            obtain ⟨x2, rfl, HX, HS, HB⟩ := hrel
            cases gk with
            | zero => exact absurd HX.out (by rintro ⟨_, _, _⟩; omega)
            | succ k2 =>
              by_cases c : x2 < (n : Int)
              · have c1 : decide (x2 < (n : Int)) = true := decide_eq_true c
                have p0 := HX.out.1
                have hyl := X.k4 (Aside0.mk HS.out.hs)
                have hyd := HS.out.cd x2 p0 c
                have hyz := blk_frozen HS.out.hd x2.toNat
                have HW := Aside0.mk (⟨by have := HN.out; unfold wrap64; omega, by omega⟩ : wrap64 (x2 + 1) = x2 + 1 ∧ x2 + 1 ≤ n)
                have HC := Aside0.mk c
                replace p0 := eq_true p0
                replace c := eq_true c
                go_wp2
                go_roundg k2
                case measure => omega
                case rel => exact ⟨wrap64 (x2 + 1), (aq), ⟨by rw [HW.out.1]; have := HX.out; have := HW.out; exact ⟨by omega, by omega, by omega⟩⟩, ⟨by
                  rw [HW.out.1, ← set_rep HX.out.1 HC.out]
                  exact HS.out.setD _ _⟩, ⟨below_set HB.out HS.out.bd⟩⟩
              · have HF := Aside0.mk (show (List.replicate x2.toNat (-1) ++ List.replicate (n - x2.toNat) 0 : List Int) = List.replicate n (-1) from by
                  have := HX.out
                  rw [show x2.toNat = n by omega, Nat.sub_self]; simp)
                have c1 : decide (x2 < (n : Int)) = false := decide_eq_false c
                clear c
                rw [HF.out] at HS
                have hyl := X.k4 (Aside0.mk HS.out.hs)
                have hyd : wr.cell? ⟨gd, 0, none⟩ = some (.int .i64 (rd (List.replicate n (-1)) 0)) := HS.out.cd 0 (by decide) (by have := HN.out; omega)
                have hyz := blk_frozen HS.out.hd 0
                have hn0 : 0 < n := HN.out.1
                have hnz : n ≠ 0 := by omega
                go_wp2_with (first | (go_at_call 18; refine (paths_set_put.calls gs 0 0 _ (X.k4 (Aside0.mk (HS.out.setD 0 0).hs)).1 (blk_frozen (HS.out.setD 0 0).hs 0) (by decide) (by decide)).mono ?_; rintro e w' ⟨rfl, rfl⟩))
                go_ret
                exact ⟨gs, gf, gd, ge, vs, rfl, ((HS.out.setD 0 0).setS _).drew, below_drew1 (below_set (below_set HB.out HS.out.bd) HS.out.bs)⟩
end Go.Proofs.YtcdddmaibchjjaaDoor.X
