import Derived.Test.YtcdddmaibchjjaaDoorProg
import Derived.Below
import Derived.Deep.Draws
import Derived.Deep.AppendLies
import Derived.Maps.AppendAt
import Derived.OwnWalk
import Derived.Laws.BytesArg
import Derived.Laws.MakeOwn
import Derived.Laws.OwnMore
import Derived.Deep.OwnRows
import Derived.Tactics
import Derived.Lib.ConvBytes
import Derived.Laws.Slices
import Derived.WalkKit
import Derived.KernelRfl
import Derived.RowKit3
import Derived.Deep.LoopGhost
import Derived.Deep.QuietTactic
import Derived.BigQuiet
import Derived.WideLaws
import Derived.Deep.DeepCutAuto
import Derived.Deep.CutBlock
import Derived.Deep.RegionHeld3
import Derived.Laws.Rows
import Derived.Lib.AppendStr
import Derived.ArgAppend
import Derived.Laws.IdiomCopy
import Derived.OrdersHeld
import Derived.Laws.BitsLemmas
import Derived.RowKit
import Derived.Test.YtcdddmaibchjjaaDoorXBase
import Derived.Test.YtcdddmaibchjjaaDoorV
import Derived.Test.YtcdddmaibchjjaaDoorX0
import Derived.RegionTactic
import Derived.ChangeAlike
import Derived.Test.YtcdddmaibchjjaaDoorH1
import Derived.Test.YtcdddmaibchjjaaDoorH2
import Derived.Test.YtcdddmaibchjjaaDoorH3
import Derived.Test.YtcdddmaibchjjaaDoorH5
import Derived.Test.YtcdddmaibchjjaaDoorH6
import Derived.Test.YtcdddmaibchjjaaDoorHT
import Derived.Laws.Bits64b
import Derived.Lib.TrailingZeros
namespace Go.Proofs.YtcdddmaibchjjaaDoor.X
open Go.RowKit Go.Proofs.YtcdddmaibchjjaaDoorW.PrintWords Go.Proofs.YtcdddmaibchjjaaDoorW.PrintLast Go.Proofs.YtcdddmaibchjjaaDoorW.PrintMore
set_option linter.unusedVariables false
set_option linter.unusedSimpArgs false
set_option maxHeartbeats 1000000
set_option maxRecDepth 100000
/-! ### run: what it computes -/
def relax1 (n : Nat) (p : Int) (e : S34) (S : Int) (far edges : List Int) : Option (Int × List Int × List Int) :=
  if rd far p + e.f2 ≤ rd far e.f1 then some (S, far, edges)
  else if (n : Int) ≤ rd edges p + 1 then none
  else some (sPut S e.f1, far.set e.f1.toNat (rd far p + e.f2), edges.set e.f1.toNat (rd edges p + 1))
def relaxAll (n : Nat) (p : Int) : List S34 → Int → List Int → List Int → Option (Int × List Int × List Int)
  | [], S, far, edges => some (S, far, edges)
  | e :: t, S, far, edges => (relax1 n p e S far edges).bind fun st => relaxAll n p t st.1 st.2.1 st.2.2
def lowOf (S : Int) : Int := (Lib.ctz 64 S.toNat : Nat)
def runF (n : Nat) (rows : List (List S34)) : Nat → Int → List Int → List Int → Option (Option (List Int × List Int))
  | 0, _, _, _ => none
  | k + 1, S, far, edges => if S = 0 then some (some (far, edges)) else
      match relaxAll n (lowOf S) (rows.getD (lowOf S).toNat []) (sDrop S (lowOf S)) far edges with
      | none => some none
      | some st => runF n rows k st.1 st.2.1 st.2.2
def Bd (n : Nat) (far edges : List Int) : Prop := far.length = n ∧ edges.length = n ∧ ∀ v : Int, 0 ≤ v → v < n → -1 ≤ rd far v ∧ rd far v ≤ 6000 * rd edges v ∧ 0 ≤ rd edges v ∧ rd edges v < n
def Pts (n : Nat) (S : Int) : Prop := ∃ f, SetOf S f ∧ ∀ i, f i = true → i < n
def EOK (n : Nat) (e : S34) : Prop := 0 ≤ e.f1 ∧ e.f1 < n ∧ 0 ≤ e.f2 ∧ e.f2 ≤ 6000
theorem rd_set {l : List Int} {i j : Int} (hi0 : 0 ≤ i) (hi : i < l.length) (hj0 : 0 ≤ j) (x : Int) : rd (l.set i.toNat x) j = if j = i then x else rd l j := by
  unfold rd
  rw [List.getD_eq_getElem?_getD, List.getD_eq_getElem?_getD, List.getElem?_set]
  by_cases c : j = i
  · subst c
    rw [if_pos rfl, if_pos rfl, if_pos (by omega)]
    rfl
  · rw [if_neg (by omega), if_neg c]
theorem Pts.low {n : Nat} {S : Int} (h : Pts n S) (hS : S ≠ 0) : 0 ≤ lowOf S ∧ lowOf S < n ∧ lowOf S < 64 := by
  obtain ⟨f, hf, hn⟩ := h
  obtain ⟨a, b⟩ := hf.least hS
  have := hn _ b
  unfold lowOf
  omega
theorem Pts.put {n : Nat} {S q : Int} (h : Pts n S) (h0 : 0 ≤ q) (h1 : q < n) (h2 : n ≤ 64) : Pts n (sPut S q) := by
  obtain ⟨f, hf, hn⟩ := h
  refine ⟨_, hf.put h0 (by omega), fun i hi => ?_⟩
  simp only [Bool.or_eq_true, beq_iff_eq] at hi
  rcases hi with hi | hi
  · exact hn i hi
  · omega
theorem Pts.drop {n : Nat} {S q : Int} (h : Pts n S) (h0 : 0 ≤ q) (h1 : q < 64) : Pts n (sDrop S q) := by
  obtain ⟨f, hf, hn⟩ := h
  refine ⟨_, hf.drop h0 h1, fun i hi => ?_⟩
  simp only [Bool.and_eq_true] at hi
  exact hn i hi.1
theorem Bd.relax {n : Nat} {p : Int} {e : S34} {far edges : List Int} (h : Bd n far edges) (hp0 : 0 ≤ p) (hp : p < n) (he : EOK n e) (h2 : ¬ (n : Int) ≤ rd edges p + 1) (h3 : ¬ rd far p + e.f2 ≤ rd far e.f1) :
    Bd n (far.set e.f1.toNat (rd far p + e.f2)) (edges.set e.f1.toNat (rd edges p + 1)) := by
  obtain ⟨l1, l2, hb⟩ := h
  obtain ⟨a1, a2, a3, a4⟩ := he
  refine ⟨by rw [List.length_set]; exact l1, by rw [List.length_set]; exact l2, fun v hv0 hv => ?_⟩
  rw [rd_set a1 (by rw [l1]; exact a2) hv0, rd_set a1 (by rw [l2]; exact a2) hv0]
  have hv' := hb v hv0 hv
  have hp' := hb p hp0 hp
  have ht' := hb _ a1 a2
  by_cases c : v = e.f1
  · rw [if_pos c, if_pos c]
    omega
  · rw [if_neg c, if_neg c]
    exact hv'
theorem tz_same (a0 : Int) (w : World) (h0 : 0 ≤ a0) (h1 : a0 < 18446744073709551616) (hT : TabOK w) : Calls Tryd.prog 32 #[.int .u64 a0] w fun e w' => e = .returned (.int .i64 (lowOf a0)) ∧ w = w' := by
  obtain ⟨x, rfl⟩ := Int.eq_ofNat_of_zero_le h0
  have hx : x < 18446744073709551616 := by omega
  unfold lowOf
  rw [Int.toNat_natCast]
  by_cases hx0 : x = 0
  · subst hx0
    exact (tz64_zero w).mono fun e w' ⟨he, hw⟩ => ⟨he, hw.symm⟩
  · obtain ⟨hlow, hk⟩ := Lib.lowest_bit 64 x hx0 hx
    obtain ⟨hi, htab⟩ := Lib.deBruijn64_at _ hk
    have hcell := hT.tz _ hi
    rw [htab] at hcell
    exact (tz64_core x _ _ w (by simp; omega) (tz64_key x _ hx hx0 hlow) hi hk hcell).mono fun e w' ⟨he, hw⟩ => ⟨he, hw.symm⟩
theorem paths_set_least.calls (g : Nat) (S : Int) (w : World) (hc : w.cell? ⟨g, 0, none⟩ = some (.int .u64 S)) (h0 : 0 ≤ S) (h1 : S < 18446744073709551616) (hT : TabOK w) :
    Calls Tryd.prog 29 #[.pointer (some ⟨g, 0, none⟩)] w fun e w' => e = .returned (.int .i64 (lowOf S)) ∧ w = w' := by
  have GT := Aside0.mk hT
  have G0 := Aside0.mk (And.intro h0 h1)
  clear hT h0 h1
  go_enter Tryd.func29, Tryd.ntmps29
  go_wp2_with (first | (go_at_call 32; refine (tz_same S _ G0.out.1 G0.out.2 GT.out).mono ?_; rintro e w' ⟨rfl, rfl⟩))
  go_ret
  exact ⟨rfl, rfl⟩
end Go.Proofs.YtcdddmaibchjjaaDoor.X
