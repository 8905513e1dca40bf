import Derived.Test.YtcdddmaibchjjaaDoorProg
import Derived.Below
import Derived.Deep.Draws
import Derived.Deep.AppendLies
import Derived.Maps.AppendAt
import Derived.OwnWalk
import Derived.Laws.BytesArg
import Derived.Laws.MakeOwn
import Derived.Laws.OwnMore
import Derived.Deep.OwnRows
import Derived.Tactics
import Derived.Lib.ConvBytes
import Derived.Laws.Slices
import Derived.WalkKit
import Derived.KernelRfl
import Derived.RowKit3
import Derived.Deep.LoopGhost
import Derived.Deep.QuietTactic
import Derived.BigQuiet
import Derived.WideLaws
import Derived.Deep.DeepCutAuto
import Derived.Deep.CutBlock
import Derived.Deep.RegionHeld3
import Derived.Laws.Rows
import Derived.Lib.AppendStr
import Derived.ArgAppend
import Derived.Laws.IdiomCopy
import Derived.OrdersHeld
import Derived.Laws.BitsLemmas
import Derived.RowKit
import Derived.Test.YtcdddmaibchjjaaDoorXBase
import Derived.Test.YtcdddmaibchjjaaDoorV
import Derived.Test.YtcdddmaibchjjaaDoorX0
import Derived.RegionTactic
import Derived.ChangeAlike
import Derived.Test.YtcdddmaibchjjaaDoorH1
import Derived.Test.YtcdddmaibchjjaaDoorH2
import Derived.Test.YtcdddmaibchjjaaDoorH3
import Derived.Test.YtcdddmaibchjjaaDoorH4
import Derived.Laws.Bits64b
import Derived.Lib.TrailingZeros
namespace Go.Proofs.YtcdddmaibchjjaaDoor.X
open Go.RowKit Go.Proofs.YtcdddmaibchjjaaDoorW.PrintWords Go.Proofs.YtcdddmaibchjjaaDoorW.PrintLast Go.Proofs.YtcdddmaibchjjaaDoorW.PrintMore
set_option linter.unusedVariables false
set_option linter.unusedSimpArgs false
set_option maxHeartbeats 1000000
set_option maxRecDepth 100000
/-! ### sets of points: what the bits say -/
/-- S is the set of the points that f tells. -/
def SetOf (S : Int) (f : Nat → Bool) : Prop := ∃ m : Nat, S = (m : Int) ∧ m < 18446744073709551616 ∧ ∀ i, m.testBit i = f i
theorem SetOf.zero : SetOf 0 (fun _ => false) := ⟨0, rfl, by decide, fun i => by simp⟩
theorem pow64 {q : Nat} (hq : q < 64) : 2 ^ q < 18446744073709551616 := by
  have : 2 ^ q < 2 ^ 64 := Nat.pow_lt_pow_right (by decide) hq
  simpa using this
theorem wrap_pow {q : Nat} (hq : q < 64) : IntKind.u64.wrap (2 ^ q) = ((2 ^ q : Nat) : Int) := by
  have h := pow64 hq
  have e : (2 : Int) ^ q = ((2 ^ q : Nat) : Int) := by rw [Int.natCast_pow]; rfl
  rw [e, IntKind.wrap_u64]
  generalize 2 ^ q = z at h
  omega
theorem SetOf.high {S : Int} {f : Nat → Bool} (h : SetOf S f) {i : Nat} (hi : 64 ≤ i) : f i = false := by
  obtain ⟨m, _, hm, hf⟩ := h
  rw [← hf i]
  apply Nat.testBit_lt_two_pow
  exact Nat.lt_of_lt_of_le hm (Nat.pow_le_pow_right (n := 2) (by decide) hi)
theorem SetOf.range {S : Int} {f : Nat → Bool} (h : SetOf S f) : 0 ≤ S ∧ S < 18446744073709551616 := by
  obtain ⟨m, rfl, hm, _⟩ := h
  omega
theorem SetOf.has {S : Int} {f : Nat → Bool} (h : SetOf S f) {q : Int} (h0 : 0 ≤ q) (h1 : q < 64) : sHas S q = f q.toNat := by
  obtain ⟨m, rfl, hm, hf⟩ := h
  obtain ⟨i, rfl⟩ := Int.eq_ofNat_of_zero_le h0
  unfold sHas
  rw [Int.toNat_natCast, ← hf i]
  have e : ((m : Int) / 2 ^ i) = ((m / 2 ^ i : Nat) : Int) := by rw [Int.natCast_ediv, Int.natCast_pow]; rfl
  rw [e, show (1 : Int) = ((1 : Nat) : Int) from rfl, bits_and_u64_nat _ 1 (Nat.lt_of_le_of_lt (Nat.div_le_self _ _) hm) (by decide)]
  rw [Nat.and_one_is_mod, Nat.testBit_eq_decide_div_mod_eq]
  by_cases c : m / 2 ^ i % 2 = 1
  · rw [c]; rfl
  · have : m / 2 ^ i % 2 = 0 := by omega
    rw [this]; rfl
theorem SetOf.put {S : Int} {f : Nat → Bool} (h : SetOf S f) {q : Int} (h0 : 0 ≤ q) (h1 : q < 64) : SetOf (sPut S q) (fun i => f i || i == q.toNat) := by
  obtain ⟨m, rfl, hm, hf⟩ := h
  obtain ⟨j, rfl⟩ := Int.eq_ofNat_of_zero_le h0
  have hj : j < 64 := by omega
  unfold sPut
  rw [Int.toNat_natCast, wrap_pow hj, bits_or_u64_nat m _ hm (pow64 hj)]
  refine ⟨_, rfl, ?_, fun i => ?_⟩
  · have := Nat.or_lt_two_pow (n := 64) (x := m) (y := 2 ^ j) (by simpa using hm) (by simpa using pow64 hj)
    simpa using this
  · rw [Nat.testBit_or, hf i, Nat.testBit_two_pow]
    clear hm
    by_cases c : i = j
    · subst c; simp
    · simp [c, Ne.symm c]
theorem SetOf.drop {S : Int} {f : Nat → Bool} (h : SetOf S f) {q : Int} (h0 : 0 ≤ q) (h1 : q < 64) : SetOf (sDrop S q) (fun i => f i && i != q.toNat) := by
  have hh := fun i => h.high (i := i)
  obtain ⟨m, rfl, hm, hf⟩ := h
  obtain ⟨j, rfl⟩ := Int.eq_ofNat_of_zero_le h0
  have hj : j < 64 := by omega
  unfold sDrop
  rw [Int.toNat_natCast, wrap_pow hj]
  have e : bits .andNot .u64 (m : Int) ((2 ^ j : Nat) : Int) = (((BitVec.ofNat 64 m &&& ~~~ BitVec.ofNat 64 (2 ^ j)).toNat : Nat) : Int) := by
    have hz : ∀ z : Nat, z < 2 ^ 64 → IntKind.u64.wrap (z : Int) = (z : Int) := fun z hz => by rw [IntKind.wrap_u64]; omega
    show IntKind.u64.wrap ((BitVec.ofInt 64 (m : Int) &&& ~~~ BitVec.ofInt 64 ((2 ^ j : Nat) : Int)).toNat : Int) = _
    rw [BitVec.ofInt_natCast, BitVec.ofInt_natCast]
    exact hz _ (BitVec.isLt _)
  rw [e]
  refine ⟨_, rfl, (BitVec.ofNat 64 m &&& ~~~ BitVec.ofNat 64 (2 ^ j)).isLt, fun i => ?_⟩
  rw [BitVec.testBit_toNat, BitVec.getLsbD_and, BitVec.getLsbD_not, BitVec.getLsbD_ofNat, BitVec.getLsbD_ofNat, hf i, Nat.testBit_two_pow]
  clear hm
  by_cases hi : i < 64
  · by_cases c : i = j
    · subst c; simp [hi]
    · simp [hi, c, Ne.symm c]
  · have hi2 := hh i (by omega)
    simp [hi2]
theorem SetOf.least {S : Int} {f : Nat → Bool} (h : SetOf S f) (hS : S ≠ 0) : Lib.ctz 64 S.toNat < 64 ∧ f (Lib.ctz 64 S.toNat) = true := by
  obtain ⟨m, rfl, hm, hf⟩ := h
  have h0 : m ≠ 0 := by omega
  rw [Int.toNat_natCast, ← hf]
  have hc : Lib.ctz 64 m = Lib.ctzFrom 64 m := by unfold Lib.ctz; rw [if_neg h0]
  obtain ⟨d, hd, hlt⟩ := Lib.ctzFrom_spec 64 m (by omega) (by simpa using hm)
  rw [hc]
  refine ⟨hlt, ?_⟩
  generalize Lib.ctzFrom 64 m = c at hd hlt
  rw [hd, Nat.testBit_two_pow_mul]
  simp
theorem SetOf.empty {S : Int} {f : Nat → Bool} (h : SetOf S f) : S = 0 ↔ ∀ i, f i = false := by
  constructor
  · rintro rfl
    obtain ⟨m, hm0, _, hf⟩ := h
    have : m = 0 := by omega
    subst this
    intro i
    rw [← hf i]
    simp
  · intro hn
    apply Classical.byContradiction
    intro hS
    have := (h.least hS).2
    rw [hn] at this
    cases this
end Go.Proofs.YtcdddmaibchjjaaDoor.X
