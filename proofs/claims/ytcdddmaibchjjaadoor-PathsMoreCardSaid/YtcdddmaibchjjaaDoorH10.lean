import Derived.Test.YtcdddmaibchjjaaDoorProg
import Derived.Below
import Derived.Deep.Draws
import Derived.Deep.AppendLies
import Derived.Maps.AppendAt
import Derived.OwnWalk
import Derived.Laws.BytesArg
import Derived.Laws.MakeOwn
import Derived.Laws.OwnMore
import Derived.Deep.OwnRows
import Derived.Tactics
import Derived.Lib.ConvBytes
import Derived.Laws.Slices
import Derived.WalkKit
import Derived.KernelRfl
import Derived.RowKit3
import Derived.Deep.LoopGhost
import Derived.Deep.QuietTactic
import Derived.BigQuiet
import Derived.WideLaws
import Derived.Deep.DeepCutAuto
import Derived.Deep.CutBlock
import Derived.Deep.RegionHeld3
import Derived.Laws.Rows
import Derived.Lib.AppendStr
import Derived.ArgAppend
import Derived.Laws.IdiomCopy
import Derived.OrdersHeld
import Derived.Laws.BitsLemmas
import Derived.RowKit
import Derived.Test.YtcdddmaibchjjaaDoorXBase
import Derived.Test.YtcdddmaibchjjaaDoorV
import Derived.Test.YtcdddmaibchjjaaDoorX0
import Derived.RegionTactic
import Derived.ChangeAlike
import Derived.Test.YtcdddmaibchjjaaDoorH1
import Derived.Test.YtcdddmaibchjjaaDoorH2
import Derived.Test.YtcdddmaibchjjaaDoorH3
import Derived.Test.YtcdddmaibchjjaaDoorH5
import Derived.Test.YtcdddmaibchjjaaDoorH6
import Derived.Test.YtcdddmaibchjjaaDoorH7
import Derived.Test.YtcdddmaibchjjaaDoorH8
import Derived.Test.YtcdddmaibchjjaaDoorH9
import Derived.Test.YtcdddmaibchjjaaDoorHT
import Derived.Laws.Bits64b
import Derived.Lib.TrailingZeros
namespace Go.Proofs.YtcdddmaibchjjaaDoor.X
open Go.RowKit Go.Proofs.YtcdddmaibchjjaaDoorW.PrintWords Go.Proofs.YtcdddmaibchjjaaDoorW.PrintLast Go.Proofs.YtcdddmaibchjjaaDoorW.PrintMore
set_option linter.unusedVariables false
set_option linter.unusedSimpArgs false
set_option maxHeartbeats 1000000
set_option maxRecDepth 100000
/-! ### reach -/
theorem has_quiet (g : Nat) (S q : Int) (b : Bool) (w : World) (hc : w.cell? ⟨g, 0, none⟩ = some (.int .u64 S)) (hq0 : 0 ≤ q) (hq : q < 64) (hb : sHas S q = b) : Calls Tryd.prog 20 #[.pointer (some ⟨g, 0, none⟩), .int .i64 q] w fun e w' => e = .returned (.bool b) ∧ w' = w := (paths_set_has.calls g S q w hc hq0 hq).mono fun _ _ ⟨a, h⟩ => ⟨by rw [a, hb], h.symm⟩
def tight (O : Int) (far : List Int) (p : Int) (e : S34) : Bool := sHas O e.f1 && (rd far e.f1 == rd far p + e.f2)
theorem paths_reach_1.calls (b n gs gf gd ge go gb gp : Nat) (S O p : Int) (vs : List Value) (rows : List (List S34)) (far edges : List Int) (e0 e1 e2 : Int) (w : World)
    (ho : w.heap[go]? = some (.cells #[.int .u64 O] 41 (0, 0))) (hb : w.heap[gb]? = some (.cells #[.pointer (some ⟨gs, 0, none⟩)] 37 (0, 0))) (hp : w.heap[gp]? = some (.cells #[.int .i64 p] 3 (0, 0)))
    (hs : Srch b w gs gf gd ge n S vs rows far edges) (hd : Bd n far edges) (hn : n ≤ 64) (hp0 : 0 ≤ p) (hp1 : p < n) (he : EOK n ⟨e0, e1, e2⟩) :
    Calls Tryd.prog 26 #[.agg #[.int .i64 e0, .int .i64 e1, .int .i64 e2], .pointer (some ⟨go, 0, none⟩), .pointer (some ⟨gb, 0, none⟩), .pointer (some ⟨gp, 0, none⟩)] w fun e w' => e = .returned (.bool (tight O far p ⟨e0, e1, e2⟩)) ∧ Below w.heap.size w w' := by
  have hu34 := Tryd.underlying34
  have hu44 := Tryd.underlying44
  have BO := Aside0.mk ho
  have BB := Aside0.mk hb
  have BP := Aside0.mk hp
  have HS := Aside0.mk hs
  have HN := Aside0.mk hn
  have HQ := Aside0.mk (And.intro hp0 hp1)
  have HE := Aside0.mk he
  obtain ⟨r, hr⟩ : ∃ r, tight O far p ⟨e0, e1, e2⟩ = r := ⟨_, rfl⟩
  rw [hr]
  unfold tight at hr
  simp only at hr
  obtain ⟨fp, hfp⟩ : ∃ y, rd far p = y := ⟨_, rfl⟩
  obtain ⟨ft, hft⟩ : ∃ y, rd far e1 = y := ⟨_, rfl⟩
  have hbp := hd.2.2 p hp0 hp1
  rw [hfp] at hbp
  have hsum : IntKind.i64.wrap (fp + e2) = fp + e2 := by rw [IntKind.wrap_i64]; have := he.2.2; simp only at this; have := hd.2.2 p hp0 hp1; omega
  rw [hfp, hft] at hr
  have HF := Aside0.mk (And.intro hfp hft)
  clear ho hb hp hs hd hn hp0 hp1 he hbp hfp hft
  have HB := Aside0.mk (Below.refl w.heap.size w)
  go_enter Tryd.func26, Tryd.ntmps26
  go_upto_region 1 with (fail)
  obtain ⟨g4, hg4⟩ : ∃ g, g = w.heap.size := ⟨_, rfl⟩
  rw [← hg4]
  have HG := Aside0.mk hg4
  clear hg4
  refine gen2_ (φ := fun w' => Aside0 (w'.heap[g4]? = some (.cells #[.int .i64 e0, .int .i64 e1, .int .i64 e2] 34 (0, 0))) ∧ Aside0 (w'.heap[go]? = some (.cells #[.int .u64 O] 41 (0, 0))) ∧ Aside0 (w'.heap[gb]? = some (.cells #[.pointer (some ⟨gs, 0, none⟩)] 37 (0, 0))) ∧ Aside0 (w'.heap[gp]? = some (.cells #[.int .i64 p] 3 (0, 0))) ∧ Aside0 (Srch b w' gs gf gd ge n S vs rows far edges) ∧ Aside0 (Below w.heap.size w w')) ⟨⟨by rw [HG.out]; exact blk_new _ _⟩, ⟨blk_alloc BO.out _⟩, ⟨blk_alloc BB.out _⟩, ⟨blk_alloc BP.out _⟩, ⟨HS.out.alloc _⟩, ⟨bf HB⟩⟩ ?_
  clear HG BO BB BP HS HB
  rintro w1 ⟨B4, BO, BB, BP, HS, HB⟩
  have hy4 := X.k3 B4
  have hyo := X.k1 BO
  have hyb := X.k1 BB
  have hyp := X.k1 BP
  have hys := X.k4 (Aside0.mk HS.out.hs)
  have hfp := HS.out.cd p HQ.out.1 HQ.out.2
  have hft := HS.out.cd e1 HE.out.1 HE.out.2.1
  rw [HF.out.1] at hfp
  rw [HF.out.2] at hft
  have p0 := eq_true HQ.out.1
  have p1 := eq_true HQ.out.2
  have t0 := eq_true (show 0 ≤ e1 from HE.out.1)
  have t1 := eq_true (show e1 < n from HE.out.2.1)
  have HE64 := Aside0.mk (show e1 < 64 from by have h1 : e1 < n := HE.out.2.1; have := HN.out; omega)
  cases c : sHas O e1
  · rw [c] at hr
    simp only [Bool.false_and] at hr
    subst hr
    go_quiet ((go_at_call 20; exact Calls.quiet_of_same (has_quiet go O e1 _ _ hyo.1 HE.out.1 HE64.out c)))
    go_wp2
    go_ret
    exact ⟨rfl, bf HB⟩
  · rw [c] at hr
    simp only [Bool.true_and] at hr
    go_quiet ((go_at_call 20; exact Calls.quiet_of_same (has_quiet go O e1 _ _ hyo.1 HE.out.1 HE64.out c)))
    go_wp2
    go_ret
    exact ⟨by rw [← hr]; rfl, bf HB⟩
end Go.Proofs.YtcdddmaibchjjaaDoor.X
