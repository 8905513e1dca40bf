import Derived.Test.YtcdddmaibchjjaaDoorProg
import Derived.Below
import Derived.Deep.Draws
import Derived.Deep.AppendLies
import Derived.Maps.AppendAt
import Derived.OwnWalk
import Derived.Laws.BytesArg
import Derived.Laws.MakeOwn
import Derived.Laws.OwnMore
import Derived.Deep.OwnRows
import Derived.Tactics
import Derived.Lib.ConvBytes
import Derived.Laws.Slices
import Derived.WalkKit
import Derived.KernelRfl
import Derived.RowKit3
import Derived.Deep.LoopGhost
import Derived.Deep.QuietTactic
import Derived.BigQuiet
import Derived.WideLaws
import Derived.Deep.DeepCutAuto
import Derived.Deep.CutBlock
import Derived.Deep.RegionHeld3
import Derived.Laws.Rows
import Derived.Lib.AppendStr
import Derived.ArgAppend
import Derived.Laws.IdiomCopy
import Derived.OrdersHeld
import Derived.Laws.BitsLemmas
import Derived.RowKit
import Derived.Test.YtcdddmaibchjjaaDoorXBase
import Derived.Test.YtcdddmaibchjjaaDoorV
import Derived.Test.YtcdddmaibchjjaaDoorX0
import Derived.RegionTactic
import Derived.ChangeAlike
namespace Go.Proofs.YtcdddmaibchjjaaDoor.X
open Go.RowKit Go.Proofs.YtcdddmaibchjjaaDoorW.PrintWords Go.Proofs.YtcdddmaibchjjaaDoorW.PrintLast Go.Proofs.YtcdddmaibchjjaaDoorW.PrintMore
set_option linter.unusedVariables false
set_option linter.unusedSimpArgs false
set_option maxHeartbeats 1000000
set_option maxRecDepth 100000
/-! ### sets of points -/
def sHas (S q : Int) : Bool := bits .and .u64 (S / 2 ^ q.toNat) 1 == 1
def sPut (S q : Int) : Int := bits .or .u64 S (IntKind.u64.wrap (2 ^ q.toNat))
def sDrop (S q : Int) : Int := bits .andNot .u64 S (IntKind.u64.wrap (2 ^ q.toNat))
theorem paths_set_has.calls (g : Nat) (S q : Int) (w : World) (hc : w.cell? ⟨g, 0, none⟩ = some (.int .u64 S)) (hq0 : 0 ≤ q) (hq : q < 64) :
    Calls Tryd.prog 20 #[.pointer (some ⟨g, 0, none⟩), .int .i64 q] w fun e w' => e = .returned (.bool (sHas S q)) ∧ w = w' := by
  go_enter Tryd.func20, Tryd.ntmps20
  go_wp2
  go_ret
  exact ⟨rfl, rfl⟩
theorem paths_set_put.calls (g : Nat) (S q : Int) (w : World) (hc : w.cell? ⟨g, 0, none⟩ = some (.int .u64 S)) (hf : w.frozen? ⟨g, 0, none⟩ = false) (hq0 : 0 ≤ q) (hq : q < 64) :
    Calls Tryd.prog 18 #[.pointer (some ⟨g, 0, none⟩), .int .i64 q] w fun e w' => e = .returned (.tuple #[]) ∧ w' = (w.setCell ⟨g, 0, none⟩ (.int .u64 (sPut S q))).drew := by
  go_enter Tryd.func18, Tryd.ntmps18
  go_wp2
  go_region
  go_end0
  exact ⟨rfl, rfl⟩
theorem paths_set_drop.calls (g : Nat) (S q : Int) (w : World) (hc : w.cell? ⟨g, 0, none⟩ = some (.int .u64 S)) (hf : w.frozen? ⟨g, 0, none⟩ = false) (hq0 : 0 ≤ q) (hq : q < 64) :
    Calls Tryd.prog 30 #[.pointer (some ⟨g, 0, none⟩), .int .i64 q] w fun e w' => e = .returned (.tuple #[]) ∧ w' = (w.setCell ⟨g, 0, none⟩ (.int .u64 (sDrop S q))).drew := by
  go_enter Tryd.func30, Tryd.ntmps30
  go_wp2
  go_region
  go_end0
  exact ⟨rfl, rfl⟩
/-! ### is that a graph? -/
def inP (n p : Int) : Bool := decide (0 ≤ p) && decide (p < n)
def eBad (n a b c : Int) : Bool := !inP n a || !inP n b || decide (c < 0) || decide (6000 < c)
theorem paths_right_1.calls (n p : Int) (g : Nat) (w : World) (hc : w.cell? ⟨g, 0, none⟩ = some (.int .i64 n)) :
    Calls Tryd.prog 27 #[.int .i64 p, .pointer (some ⟨g, 0, none⟩)] w fun e w' => e = .returned (.bool (inP n p)) ∧ w = w' := by
  unfold inP
  by_cases h : 0 ≤ p
  · have hb : decide (0 ≤ p) = true := decide_eq_true h
    clear h
    go_enter Tryd.func27, Tryd.ntmps27
    go_wp2
    go_ret
    exact ⟨by rw [hb]; rfl, rfl⟩
  · have hb : decide (0 ≤ p) = false := decide_eq_false h
    clear h
    go_enter Tryd.func27, Tryd.ntmps27
    go_wp2
    go_ret
    exact ⟨by rw [hb]; rfl, rfl⟩
theorem paths_right_2.calls (n a b c : Int) (g2 g5 : Nat) (w : World) (h5 : w.heap[g5]? = some (.cells #[.func (.func 27) #[] #[.pointer (some ⟨g2, 0, none⟩)]] 49 (0, 0))) (h2 : w.heap[g2]? = some (.cells #[.int .i64 n] 3 (0, 0))) :
    Calls Tryd.prog 28 #[.agg #[.int .i64 a, .int .i64 b, .int .i64 c], .pointer (some ⟨g5, 0, none⟩)] w fun e w' => e = .returned (.bool (eBad n a b c)) ∧ Below w.heap.size w w' := by
  have hu := Tryd.underlying34
  have BK5 := Aside0.mk h5
  have BK2 := Aside0.mk h2
  clear h5 h2
  have HB := Aside0.mk (Below.refl w.heap.size w)
  obtain ⟨r, hr⟩ : ∃ r, eBad n a b c = r := ⟨_, rfl⟩
  rw [hr]
  have key : (inP n a = false ∧ r = true) ∨ (inP n a = true ∧ inP n b = false ∧ r = true) ∨ (inP n a = true ∧ inP n b = true ∧ decide (c < 0) = true ∧ r = true) ∨ (inP n a = true ∧ inP n b = true ∧ decide (c < 0) = false ∧ decide (6000 < c) = r) := by
    unfold eBad at hr
    revert hr
    cases inP n a <;> cases inP n b <;> cases decide (c < 0) <;> simp <;> intro h <;> simp [h]
  clear hr
  rcases key with ⟨h1, rfl⟩ | ⟨h1, h2, rfl⟩ | ⟨h1, h2, h3, rfl⟩ | ⟨h1, h2, h3, h4⟩
  all_goals
    go_enter Tryd.func28, Tryd.ntmps28
    go_wp2_with (first | ((with_reducible refine gd 2 rfl ?_); refine bx_ 2 34 #[.int .i64 a, .int .i64 b, .int .i64 c] rfl rfl ?_; intro g1 hg w1 BK1 hb; have GE1 := bz HB hg; replace BK5 := bb BK5 hb; replace BK2 := bb BK2 hb; replace HB := bs HB hb; clear hb hg; have hy1 := k3 BK1; have hy5 := k1 BK5; have hy2 := k1 BK2) | (go_at_call 27; refine (paths_right_1.calls _ _ g2 _ hy2.1).mono ?_; rintro e w2 ⟨rfl, rfl⟩))
    go_ret
    exact ⟨rfl, bf HB⟩
end Go.Proofs.YtcdddmaibchjjaaDoor.X
