import Derived.Test.YtcdddmaibchjjaaDoorProg
import Derived.Below
import Derived.Deep.Draws
import Derived.Deep.AppendLies
import Derived.Maps.AppendAt
import Derived.OwnWalk
import Derived.Laws.BytesArg
import Derived.Laws.MakeOwn
import Derived.Laws.OwnMore
import Derived.Deep.OwnRows
import Derived.Tactics
import Derived.Lib.ConvBytes
import Derived.Laws.Slices
import Derived.WalkKit
import Derived.KernelRfl
import Derived.RowKit3
import Derived.Deep.LoopGhost
import Derived.Deep.QuietTactic
import Derived.BigQuiet
import Derived.WideLaws
import Derived.Deep.DeepCutAuto
import Derived.Deep.CutBlock
import Derived.Deep.RegionHeld3
import Derived.Laws.Rows
import Derived.Lib.AppendStr
import Derived.ArgAppend
import Derived.Laws.IdiomCopy
import Derived.OrdersHeld
import Derived.Laws.BitsLemmas
import Derived.RowKit
import Derived.Test.YtcdddmaibchjjaaDoorXBase
import Derived.Test.YtcdddmaibchjjaaDoorV
import Derived.Test.YtcdddmaibchjjaaDoorX0
import Derived.RegionTactic
import Derived.ChangeAlike
import Derived.Test.YtcdddmaibchjjaaDoorH1
import Derived.Test.YtcdddmaibchjjaaDoorH2
namespace Go.Proofs.YtcdddmaibchjjaaDoor.X
open Go.RowKit Go.Proofs.YtcdddmaibchjjaaDoorW.PrintWords Go.Proofs.YtcdddmaibchjjaaDoorW.PrintLast Go.Proofs.YtcdddmaibchjjaaDoorW.PrintMore
set_option linter.unusedVariables false
set_option linter.unusedSimpArgs false
set_option maxHeartbeats 1000000
set_option maxRecDepth 100000
/-! ### right -/
def eB (n : Int) (e : S34) : Bool := eBad n e.f0 e.f1 e.f2
def rightF (n : Int) (l : List S34) : Bool := decide (1 ≤ n) && decide (n ≤ 64) && decide (l.length ≤ 1000) && !l.any (eB n)
theorem paths_right.calls (n : Int) (A : Option Addr) (c0 : Nat) (l : List S34) (w : World) (hr : Kd.C k34 w A l.length l) :
    Calls Tryd.prog 22 #[.int .i64 n, .slice A l.length c0] w fun e w' => e = .returned (.bool (rightF n l)) ∧ Below w.heap.size w w' := by
  have hsf : ∀ (w : World) (a : Addr) (fn : Fn) (first cap : Array Value) (m : Mode), (store a (.func fn first cap) m).run Tryd.prog w = stored Tryd.prog w a (.func fn first cap) m := fun w a fn first cap m => run_store _ w a _ m rfl
  have hmf : ∀ (fn : Fn) (first cap : Array Value) (w : World), (Instr.makeFunc fn first cap).run Tryd.prog w = .ok (.func fn first cap) w := fun _ _ _ _ => rfl
  have HR := Aside0.mk hr
  clear hr
  have HB := Aside0.mk (Below.refl w.heap.size w)
  obtain ⟨r, hr⟩ : ∃ r, rightF n l = r := ⟨_, rfl⟩
  rw [hr]
  have key : (decide (1 ≤ n) = false ∧ r = false) ∨ (decide (1 ≤ n) = true ∧ decide (n ≤ 64) = false ∧ r = false) ∨ (decide (1 ≤ n) = true ∧ decide (n ≤ 64) = true ∧ l.length > 1000 ∧ r = false) ∨ (decide (1 ≤ n) = true ∧ decide (n ≤ 64) = true ∧ l.length ≤ 1000 ∧ l.any (eB n) = !r) := by
    unfold rightF at hr
    by_cases hl : l.length ≤ 1000
    · revert hr
      rw [decide_eq_true hl]
      cases decide (1 ≤ n) <;> cases decide (n ≤ 64) <;> cases l.any (eB n) <;> simp [hl] <;> intro h <;> simp [← h]
    · revert hr
      rw [decide_eq_false hl]
      cases decide (1 ≤ n) <;> cases decide (n ≤ 64) <;> simp <;> intro h <;> simp [← h] <;> omega
  clear hr
  rcases key with ⟨h1, rfl⟩ | ⟨h1, h2, rfl⟩ | ⟨h1, h2, h3, rfl⟩ | ⟨h1, h2, h3, h4⟩
  · go_enter Tryd.func22, Tryd.ntmps22
    go_wp2_with (first | ((with_reducible refine gd 2 rfl ?_); refine bx_ 2 3 #[.int .i64 n] rfl rfl ?_; intro g2 hg w1 BK2 hb; have GE2 := bz HB hg; replace HB := bs HB hb; clear hb hg; have hy2 := k1 BK2) | ((with_reducible refine gd 5 rfl ?_); refine bx_ 5 49 #[.nilFunc] rfl rfl ?_; intro g5 hg w2 BK5 hb; have GE5 := bz HB hg; have ⟨NB2_5, NB5_2⟩ := nb BK2 hg; replace BK2 := bb BK2 hb; replace HB := bs HB hb; clear hb hg hy2; have hn5 := nn NB5_2; have hy2 := k1 BK2; have hy5 := k1 BK5))
    go_ret
    exact ⟨rfl, bf HB⟩
  · go_enter Tryd.func22, Tryd.ntmps22
    go_wp2_with (first | ((with_reducible refine gd 2 rfl ?_); refine bx_ 2 3 #[.int .i64 n] rfl rfl ?_; intro g2 hg w1 BK2 hb; have GE2 := bz HB hg; replace HB := bs HB hb; clear hb hg; have hy2 := k1 BK2) | ((with_reducible refine gd 5 rfl ?_); refine bx_ 5 49 #[.nilFunc] rfl rfl ?_; intro g5 hg w2 BK5 hb; have GE5 := bz HB hg; have ⟨NB2_5, NB5_2⟩ := nb BK2 hg; replace BK2 := bb BK2 hb; replace HB := bs HB hb; clear hb hg hy2; have hn5 := nn NB5_2; have hy2 := k1 BK2; have hy5 := k1 BK5))
    go_ret
    exact ⟨rfl, bf HB⟩
  · have h5 : decide (l.length ≤ 1000) = false := decide_eq_false (by omega)
    have h6 : decide ((l.length : Int) ≤ 1000) = false := decide_eq_false (by omega)
    clear h3
    go_enter Tryd.func22, Tryd.ntmps22
    go_wp2_with (first | ((with_reducible refine gd 2 rfl ?_); refine bx_ 2 3 #[.int .i64 n] rfl rfl ?_; intro g2 hg w1 BK2 hb; have GE2 := bz HB hg; replace HB := bs HB hb; clear hb hg; have hy2 := k1 BK2) | ((with_reducible refine gd 5 rfl ?_); refine bx_ 5 49 #[.nilFunc] rfl rfl ?_; intro g5 hg w2 BK5 hb; have GE5 := bz HB hg; have ⟨NB2_5, NB5_2⟩ := nb BK2 hg; replace BK2 := bb BK2 hb; replace HB := bs HB hb; clear hb hg hy2; have hn5 := nn NB5_2; have hy2 := k1 BK2; have hy5 := k1 BK5))
    go_ret
    exact ⟨rfl, bf HB⟩
  · have h5 : decide (l.length ≤ 1000) = true := decide_eq_true h3
    have h6 : decide ((l.length : Int) ≤ 1000) = true := decide_eq_true (by omega)
    have HL := Aside0.mk h3
    have HA := Aside0.mk h4
    clear h3 h4
    go_enter Tryd.func22, Tryd.ntmps22
    go_wp2_with (first | ((with_reducible refine gd 2 rfl ?_); refine bx_ 2 3 #[.int .i64 n] rfl rfl ?_; intro g2 hg w1 BK2 hb; have GE2 := bz HB hg; replace HB := bs HB hb; clear hb hg; have hy2 := k1 BK2) | ((with_reducible refine gd 5 rfl ?_); refine bx_ 5 49 #[.nilFunc] rfl rfl ?_; intro g5 hg w2 BK5 hb; have GE5 := bz HB hg; have ⟨NB2_5, NB5_2⟩ := nb BK2 hg; replace BK2 := bb BK2 hb; replace HB := bs HB hb; clear hb hg hy2; have hn5 := nn NB5_2; have hy2 := k1 BK2; have hy5 := k1 BK5) | (go_at_call 25; refine (slices_ContainsFunc_Edge.calls 28 Tryd.f28 #[.pointer (some ⟨g5, 0, none⟩)] Tryd.func28 (by kernel_rfl) (by kernel_rfl) (eB n) A c0 l _ (Kd.C_below HR.out (bf HB)) (by have := HL.out; omega) (fun x w3 _ hb3 => paths_right_2.calls n x.f0 x.f1 x.f2 g2 g5 w3 (blk_below (br_ BK5) hb3) (blk_below (br_ BK2) hb3))).mono ?_; rintro e w4 ⟨he, hb⟩; rw [HA.out] at he; subst he; replace HB := bs HB hb; clear hb))
    go_ret
    exact ⟨by simp, bf HB⟩
end Go.Proofs.YtcdddmaibchjjaaDoor.X
