import Derived.Test.YtcdddmaibchjjaaDoorProg
import Derived.Below
import Derived.Deep.Draws
import Derived.Deep.AppendLies
import Derived.Maps.AppendAt
import Derived.OwnWalk
import Derived.Laws.BytesArg
import Derived.Laws.MakeOwn
import Derived.Laws.OwnMore
import Derived.Deep.OwnRows
import Derived.Tactics
import Derived.Lib.ConvBytes
import Derived.Laws.Slices
import Derived.WalkKit
import Derived.KernelRfl
import Derived.RowKit3
import Derived.Deep.LoopGhost
import Derived.Deep.QuietTactic
import Derived.BigQuiet
import Derived.WideLaws
import Derived.Deep.DeepCutAuto
import Derived.Deep.CutBlock
import Derived.Deep.RegionHeld3
import Derived.Laws.Rows
import Derived.Lib.AppendStr
import Derived.ArgAppend
import Derived.Laws.IdiomCopy
import Derived.OrdersHeld
import Derived.Laws.BitsLemmas
import Derived.RowKit
import Derived.Test.YtcdddmaibchjjaaDoorXBase
import Derived.Test.YtcdddmaibchjjaaDoorV
import Derived.Test.YtcdddmaibchjjaaDoorX0
import Derived.RegionTactic
import Derived.ChangeAlike
import Derived.Test.YtcdddmaibchjjaaDoorH1
namespace Go.Proofs.YtcdddmaibchjjaaDoor.X
open Go.RowKit Go.Proofs.YtcdddmaibchjjaaDoorW.PrintWords Go.Proofs.YtcdddmaibchjjaaDoorW.PrintLast Go.Proofs.YtcdddmaibchjjaaDoorW.PrintMore
set_option linter.unusedVariables false
set_option linter.unusedSimpArgs false
set_option maxHeartbeats 1000000
set_option maxRecDepth 100000
/-! ### slices.IndexFunc, ContainsFunc over edges -/
def idxF (p : S34 → Bool) (l : List S34) : Int := if l.any p then (l.findIdx p : Int) else -1
theorem idxF_at {p : S34 → Bool} {l : List S34} {x : Int} (h0 : 0 ≤ x) (h1 : x < l.length) (hb : ∀ j : Nat, (j : Int) < x → p (l.getD j z34) = false) (hx : p (rd_T34 l x) = true) : idxF p l = x := by
  obtain ⟨i, rfl⟩ := Int.eq_ofNat_of_zero_le h0
  have hi : i < l.length := by omega
  have hg : rd_T34 l (i : Int) = l[i] := by unfold rd_T34; rw [Int.toNat_natCast, List.getD_eq_getElem?_getD, List.getElem?_eq_getElem hi]; rfl
  rw [hg] at hx
  have ha : l.any p = true := List.any_eq_true.2 ⟨l[i], List.getElem_mem hi, hx⟩
  unfold idxF
  rw [if_pos ha]
  congr 1
  refine List.findIdx_eq hi |>.2 ⟨hx, fun j hj => ?_⟩
  have := hb j (by omega)
  rwa [List.getD_eq_getElem?_getD, List.getElem?_eq_getElem (by omega)] at this
theorem idxF_none {p : S34 → Bool} {l : List S34} {x : Int} (h1 : ¬ x < l.length) (hb : ∀ j : Nat, (j : Int) < x → p (l.getD j z34) = false) : idxF p l = -1 := by
  unfold idxF
  rw [if_neg]
  intro ha
  obtain ⟨y, hy, hp⟩ := List.any_eq_true.1 ha
  obtain ⟨j, hj, rfl⟩ := List.getElem_of_mem hy
  have := hb j (by omega)
  rw [List.getD_eq_getElem?_getD, List.getElem?_eq_getElem hj] at this
  have this : p l[j] = false := this
  rw [this] at hp
  cases hp
theorem rd_mem {l : List S34} {x : Int} (h0 : 0 ≤ x) (h1 : x < l.length) : rd_T34 l x ∈ l := by
  unfold rd_T34
  rw [List.getD_eq_getElem?_getD, List.getElem?_eq_getElem (by omega)]
  exact List.getElem_mem _
theorem slices_IndexFunc_Edge.calls (K : Nat) (fn : Func) (cap : Array Value) (hf : Tryd.prog.funcs[K]? = some fn) (hname : (fn.name == "runtime.NumGoroutine") = false) (hbd : fn.body.isSome = true) (p : S34 → Bool) (A : Option Addr) (c0 : Nat) (l : List S34) (w : World)
    (hr : Kd.C k34 w A l.length l) (hm : l.length ≤ 1000000000)
    (hdo : ∀ (x : S34) (w1 : World), x ∈ l → Below w.heap.size w w1 → Calls Tryd.prog K (#[.agg #[.int .i64 x.f0, .int .i64 x.f1, .int .i64 x.f2]] ++ cap) w1 fun e w' => e = .returned (.bool (p x)) ∧ Below w1.heap.size w1 w') :
    Calls Tryd.prog 31 #[.slice A l.length c0, .func (.func K) #[] cap] w fun e w' => e = .returned (.int .i64 (idxF p l)) ∧ Below w.heap.size w w' := by
  have hu := Tryd.underlying34
  have HR := Aside0.mk hr
  have HM := Aside0.mk hm
  have HD := Aside0.mk hdo
  have HF := Aside0.mk hf
  have HN := Aside0.mk hname
  have HY := Aside0.mk hbd
  clear hr hm hdo hf hname hbd
  have HB := Aside0.mk (Below.refl w.heap.size w)
  go_enter Tryd.func31, Tryd.ntmps31
  go_wp2
  go_loopg [8] (l.length + 1) (fun kq v8 w' => ∃ x : Int, v8 = .int .i64 x ∧ Aside0 (0 ≤ x ∧ x + kq = l.length + 1 ∧ x ≤ l.length ∧ (∀ j : Nat, (j : Int) < x → p (l.getD j z34) = false)) ∧ Aside0 (Below w.heap.size w w'))
  case atStart => exact ⟨0, (aq), ⟨⟨by omega, by omega, by omega, fun j hj => by omega⟩⟩, ⟨bf HB⟩⟩
  case round =>
    clear HB
    obtain ⟨x, rfl, HX, HB⟩ := hrel
    cases gk with
    | zero => exact absurd HX.out (by rintro ⟨_, _, _, _⟩; omega)
    | succ k1 =>
      by_cases c : x < (l.length : Int)
      · have c1 : decide (x < (l.length : Int)) = true := decide_eq_true c
        have p0 := HX.out.1
        have HE := Aside0.mk (rd_mem p0 c)
        obtain ⟨ad, ea_, hx0, hx1, hx2⟩ := at_T34 (Kd.C_below HR.out HB.out) x p0 c
        cases ea_
        have HW := Aside0.mk (⟨by have := HM.out; unfold wrap64; omega, by omega⟩ : wrap64 (x + 1) = x + 1 ∧ x + 1 ≤ l.length)
        obtain ⟨b, hp⟩ : ∃ b, p (rd_T34 l x) = b := ⟨_, rfl⟩
        cases b
        · have HP := Aside0.mk hp
          clear hp
          replace p0 := eq_true p0
          replace c := eq_true c
          go_wp2_with (first | ((with_reducible refine gate_tmp rfl ?_); refine goesC_ (some 16) rfl rfl HF.out HN.out HY.out #[.agg #[.int .i64 (rd_T34 l x).f0, .int .i64 (rd_T34 l x).f1, .int .i64 (rd_T34 l x).f2]] cap rfl ag rfl ?_; refine (HD.out _ _ HE.out (bf HB)).mono ?_; rintro e w3 ⟨he, hb⟩; rw [HP.out] at he; subst he; refine ⟨_, rfl, ?_⟩; replace HB := bs HB hb; clear hb))
          go_roundg k1
          case measure => omega
          case rel => exact ⟨wrap64 (x + 1), (aq), ⟨by
            obtain ⟨a1, a2, a3, a4⟩ := HX.out
            rw [HW.out.1]
            exact ⟨by omega, by omega, HW.out.2, fun j hj => by
              by_cases e : (j : Int) < x
              · exact a4 j e
              · have : (j : Int) = x := by omega
                have h2 := HP.out
                unfold rd_T34 at h2
                rwa [← this, Int.toNat_natCast] at h2⟩⟩, ⟨bf HB⟩⟩
        · have HI := Aside0.mk (idxF_at p0 c HX.out.2.2.2 hp)
          have HP := Aside0.mk hp
          clear hp
          replace p0 := eq_true p0
          replace c := eq_true c
          go_wp2_with (first | ((with_reducible refine gate_tmp rfl ?_); refine goesC_ (some 16) rfl rfl HF.out HN.out HY.out #[.agg #[.int .i64 (rd_T34 l x).f0, .int .i64 (rd_T34 l x).f1, .int .i64 (rd_T34 l x).f2]] cap rfl ag rfl ?_; refine (HD.out _ _ HE.out (bf HB)).mono ?_; rintro e w3 ⟨he, hb⟩; rw [HP.out] at he; subst he; refine ⟨_, rfl, ?_⟩; replace HB := bs HB hb; clear hb))
          go_ret
          exact ⟨by rw [HI.out]; rfl, bf HB⟩
      · have HI := Aside0.mk (idxF_none c HX.out.2.2.2)
        have c1 : decide (x < (l.length : Int)) = false := decide_eq_false c
        clear c
        go_wp2
        go_ret
        exact ⟨by rw [HI.out]; rfl, bf HB⟩
theorem idxF_ge (p : S34 → Bool) (l : List S34) : decide (idxF p l ≥ 0) = l.any p := by
  unfold idxF
  cases h : l.any p
  · rw [if_neg (by simp)]; rfl
  · rw [if_pos rfl]; exact decide_eq_true (by omega)
theorem slices_ContainsFunc_Edge.calls (K : Nat) (fn : Func) (cap : Array Value) (hf : Tryd.prog.funcs[K]? = some fn) (hname : (fn.name == "runtime.NumGoroutine") = false) (hbd : fn.body.isSome = true) (p : S34 → Bool) (A : Option Addr) (c0 : Nat) (l : List S34) (w : World)
    (hr : Kd.C k34 w A l.length l) (hm : l.length ≤ 1000000000)
    (hdo : ∀ (x : S34) (w1 : World), x ∈ l → Below w.heap.size w w1 → Calls Tryd.prog K (#[.agg #[.int .i64 x.f0, .int .i64 x.f1, .int .i64 x.f2]] ++ cap) w1 fun e w' => e = .returned (.bool (p x)) ∧ Below w1.heap.size w1 w') :
    Calls Tryd.prog 25 #[.slice A l.length c0, .func (.func K) #[] cap] w fun e w' => e = .returned (.bool (l.any p)) ∧ Below w.heap.size w w' := by
  have HR := Aside0.mk hr
  have HM := Aside0.mk hm
  have HD := Aside0.mk hdo
  have HF := Aside0.mk hf
  have HN := Aside0.mk hname
  have HY := Aside0.mk hbd
  clear hr hm hdo hf hname hbd
  have HG := Aside0.mk (idxF_ge p l)
  go_enter Tryd.func25, Tryd.ntmps25
  go_wp2_with (first | (go_at_call 31; refine (slices_IndexFunc_Edge.calls K fn cap HF.out HN.out HY.out p A c0 l _ HR.out HM.out HD.out).mono ?_; rintro e w3 ⟨rfl, hb⟩; have HB := Aside0.mk hb; clear hb))
  go_ret
  exact ⟨by rw [← HG.out]; rfl, HB.out⟩
end Go.Proofs.YtcdddmaibchjjaaDoor.X
