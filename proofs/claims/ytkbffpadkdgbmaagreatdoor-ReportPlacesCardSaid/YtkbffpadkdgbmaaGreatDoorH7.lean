/- awake returns true. Conditions: the two tables lie in their variables. -/
import Derived.Test.YtkbffpadkdgbmaaGreatDoorEvF
import Derived.Test.YtkbffpadkdgbmaaGreatDoorEvK
import Derived.Test.YtkbffpadkdgbmaaGreatDoorShelf
import Derived.Test.YtkbffpadkdgbmaaGreatDoorXBase
namespace Go.Proofs.YtkbffpadkdgbmaaGreatDoor.X
open Go Go.Ev Go.RowKit
theorem tabIn_of {w : World} {g : Nat} {k : IntKind} {z : Nat} {zs : List Nat} (h : ∀ j, j < (z :: zs).length → w.cell? ⟨g, j, none⟩ = some (.int k (Int.ofNat ((z :: zs).getD j 0)))) : TabIn w (g, tabBlk (z :: zs) k) := by
  refine ⟨_, _, _, rfl, fun j u hj => ?_⟩
  rw [← List.map_cons (f := fun x => Value.int k (Int.ofNat x)), List.getElem?_map, Option.map_eq_some_iff] at hj
  obtain ⟨x, hx, rfl⟩ := hj
  obtain ⟨hl, hx⟩ := List.getElem?_eq_some_iff.1 hx
  refine ⟨?_, rfl⟩
  rw [h j hl, List.getD_eq_getElem?_getD, List.getElem?_eq_getElem hl, hx]
  rfl
theorem awake_calls (w : World) (hT : TabOK w) : Calls Tryz.prog 10 #[] w fun e w' => e = .returned (.bool true) ∧ Below w.heap.size w w' := by
  refine runs_calls Tryz.lays105.mixed (tabs := tabs29) ?_ ?_ ?_ runs29
  · simp [tabs29]
  · intro p hp
    simp only [tabs29, List.mem_cons, List.not_mem_nil, or_false] at hp
    rcases hp with rfl | rfl <;> decide
  · intro p hp
    simp only [tabs29, List.mem_cons, List.not_mem_nil, or_false] at hp
    rcases hp with rfl | rfl
    · refine tabIn_of fun j hj => ?_
      rw [hT.2.cell (g := 3) (by kernel_rfl) j hj]
      exact congrArg (fun x => some (Value.int .u64 x)) ((by decide : ∀ j, j < 20 → Lib.pow10Tab.getD j 0 = Int.ofNat (([1, 10, 100, 1000, 10000, 100000, 1000000, 10000000, 100000000, 1000000000, 10000000000, 100000000000, 1000000000000, 10000000000000, 100000000000000, 1000000000000000, 10000000000000000, 100000000000000000, 1000000000000000000, 10000000000000000000] : List Nat).getD j 0)) j hj)
    · refine tabIn_of fun j hj => ?_
      rw [hT.1 j hj]
      rfl
def carrefourlaw29_awake.f : Option Bool := some true
theorem carrefourlaw29_awake.calls (r : Bool) (w : World) (h : carrefourlaw29_awake.f = some r) (hT : TabOK w) : Calls Tryz.prog 10 #[] w fun e w' => e = .returned (.bool r) ∧ Below w.heap.size w w' := by
  obtain rfl := Option.some.inj h
  exact awake_calls w hT
end Go.Proofs.YtkbffpadkdgbmaaGreatDoor.X
