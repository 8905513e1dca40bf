/- (*table).row: a row is kept, the columns grow. Conditions: as each theorem's head says. -/
import Derived.Test.YtkbffpadkdgbmaaGreatDoorXBase
import Derived.Test.YtkbffpadkdgbmaaGreatDoorV
import Derived.RegionTactic
import Derived.ChangeAlike
namespace Go.Proofs.YtkbffpadkdgbmaaGreatDoor.X
open Go.RowKit Go.Proofs.YtkbffpadkdgbmaaGreatDoorW.PrintWords Go.Proofs.YtkbffpadkdgbmaaGreatDoorW.PrintLast Go.Proofs.YtkbffpadkdgbmaaGreatDoorW.PrintMore
set_option linter.unusedVariables false
set_option linter.unusedSimpArgs false
set_option maxHeartbeats 1000000
set_option maxRecDepth 100000
attribute [local go_sem] max2_int min2_int max_two min_two max_three min_three max_four min_four
/-! ### widths -/
def wid : List Int → List ByteArray → List Int
  | ws, [] => ws
  | [], c :: cs => max 0 (c.size : Int) :: wid [] cs
  | w :: ws, c :: cs => max w (c.size : Int) :: wid ws cs
def grow1 (v : List Int) (k : Nat) : List Int := if k = v.length then v ++ [0] else v
theorem wid_len : ∀ (ws : List Int) (l : List ByteArray), (wid ws l).length = max ws.length l.length
  | ws, [] => by simp [wid]
  | [], c :: cs => by simp [wid, wid_len [] cs]
  | w :: ws, c :: cs => by simp [wid, wid_len ws cs]
theorem wid_snoc : ∀ (p : List ByteArray) (ws : List Int) (c : ByteArray), wid ws (p ++ [c]) = (grow1 (wid ws p) p.length).set p.length (max ((grow1 (wid ws p) p.length).getD p.length 0) (c.size : Int))
  | [], [], c => by simp [wid, grow1]
  | [], w :: ws, c => by simp [wid, grow1]
  | x :: p, [], c => by
    have h := wid_snoc p [] c
    by_cases e : p.length = (wid [] p).length
    · simp [wid, grow1, e] at h ⊢; exact h
    · simp [wid, grow1, e] at h ⊢; exact h
  | x :: p, w :: ws, c => by
    have h := wid_snoc p ws c
    by_cases e : p.length = (wid ws p).length
    · simp [wid, grow1, e] at h ⊢; exact h
    · simp [wid, grow1, e] at h ⊢; exact h
/-! ### what is known of a table in memory -/
/-- A row that is only read, since a world ago. -/
def kRd (w0 : World) : Kd (List ByteArray) where
  sz := 1
  E := []
  K := fun _ x cs => ∃ A c, cs = [.slice A x.length c] ∧ x.length ≤ c ∧ Kd.C Kd.string w0 A x.length x
  M := fun _ _ _ x cs => ∃ A c, cs = [.slice A x.length c] ∧ x.length ≤ c ∧ Kd.C Kd.string w0 A x.length x
  K_len := by
    rintro w x cs ⟨A, c, rfl, _⟩
    rfl
  K_one := by
    rintro w x cs ⟨A, c, rfl, _⟩ u hu
    rw [List.mem_singleton.1 hu]
    rfl
  K_below := fun _ h => h
  K_of_M := fun h => h
  M_mono := fun _ h => h
  M_bound := fun h => h
  M_move := fun _ h => h
  M_lower := fun _ h => h
structure Tb (w0 w : World) (gt : Nat) (vR vW : Value) (rows : List (List ByteArray)) (ws : List Int) : Prop where
  ht : w.heap[gt]? = some (.cells #[vR, vW] 32 (0, 0))
  bt : w0.heap.size ≤ gt
  rR : Kd.R (kRd w0) 28 w w0.heap.size (fun _ => True) vR rows
  rW : Kd.R (Kd.int .i64) 3 w w0.heap.size (fun _ => True) vW ws
section
variable {w0 w w1 : World} {gt : Nat} {vR vW v1 : Value} {rows rows1 : List (List ByteArray)} {ws ws1 : List Int}
theorem Tb.below (h : Tb w0 w gt vR vW rows ws) (hb : Below w.heap.size w w1) : Tb w0 w1 gt vR vW rows ws := ⟨blk_below h.ht hb, h.bt, Kd.R_below h.rR hb, Kd.R_below h.rW hb⟩
theorem Tb.drew (h : Tb w0 w gt vR vW rows ws) : Tb w0 w.drew gt vR vW rows ws := h.below (below_drew (Below.refl _ _))
theorem Tb.drewN (h : Tb w0 w gt vR vW rows ws) (m : Nat) : Tb w0 (w.drewN m) gt vR vW rows ws := h.below (pw_below_drewN (Below.refl _ _) m)
theorem Tb.alloc (h : Tb w0 w gt vR vW rows ws) (o : Obj) : Tb w0 (w.alloc o) gt vR vW rows ws := h.below (below_alloc (Below.refl _ _) o)
theorem Tb.neRW (h : Tb w0 w gt vR vW rows ws) : ∀ k, vR.ownBlock = some k → some k ≠ vW.ownBlock := by
  intro k hk he
  obtain ⟨_, h1⟩ := Kd.R_own h.rR
  obtain ⟨_, h2⟩ := Kd.R_own h.rW
  obtain ⟨c1, e1⟩ := own_typed h1 k hk
  obtain ⟨c2, e2⟩ := own_typed h2 k he.symm
  rw [e1] at e2
  injection e2 with e2
  injection e2 with _ e2
  cases e2
theorem Tb.pushR (h : Tb w0 w gt vR vW rows ws) (hR : Kd.R (kRd w0) 28 w1 w0.heap.size (fun _ => True) v1 rows1) (hg : w.grownBy w1 vR.ownBlock) : Tb w0 (w1.setCell ⟨gt, 0, none⟩ v1) gt v1 vW rows1 ws := by
  have ht := blk_grown h.ht hg (Kd.R_ne h.rR h.ht (by decide))
  have tl : ∀ {q : Nat} {l : List Nat} {t : Nat}, t ≠ q → q ∈ t :: [] → t ≠ q := fun h _ => h
  refine ⟨blk_set ht 0 v1, h.bt, Kd.R_set hR ht (fun q hq => by rcases List.mem_cons.1 hq with rfl | hq; decide; cases hq) _ _, Kd.R_set (Kd.R_grown2 h.rW rfl hg h.neRW) ht (fun q hq => by rcases List.mem_cons.1 hq with rfl | hq; decide; cases hq) _ _⟩
theorem Tb.pushW (h : Tb w0 w gt vR vW rows ws) (hR : Kd.R (Kd.int .i64) 3 w1 w0.heap.size (fun _ => True) v1 ws1) (hg : w.grownBy w1 vW.ownBlock) : Tb w0 (w1.setCell ⟨gt, 1, none⟩ v1) gt vR v1 rows ws1 := by
  have ht := blk_grown h.ht hg (Kd.R_ne h.rW h.ht (by decide))
  refine ⟨blk_set ht 1 v1, h.bt, Kd.R_set (Kd.R_grown2 h.rR rfl hg (fun k hk he => h.neRW k he.symm hk.symm)) ht (fun q hq => by rcases List.mem_cons.1 hq with rfl | hq; decide; cases hq) _ _, Kd.R_set hR ht (fun q hq => by rcases List.mem_cons.1 hq with rfl | hq; decide; cases hq) _ _⟩
theorem Tb.putW {g n cap : Nat} (h : Tb w0 w gt vR (.slice (some ⟨g, 0, none⟩) n cap) rows ws) (i : Int) (x : Int) : Tb w0 (w.setCell ⟨g, i.toNat, none⟩ (.int .i64 x)) gt vR (.slice (some ⟨g, 0, none⟩) n cap) rows (ws.set i.toNat x) ∧ w0.heap.size ≤ g := by
  obtain ⟨inner, ho⟩ := Kd.R_own h.rW
  obtain ⟨cg, eg⟩ := own_typed ho g rfl
  refine ⟨⟨blk_far h.ht (fun e => ?_) _, h.bt, Kd.R_set h.rR eg (fun q hq => by rcases List.mem_cons.1 hq with rfl | hq; decide; cases hq) _ _, Kd.R_putn h.rW i x⟩, own_base ho g rfl⟩
  subst e
  rw [h.ht] at eg
  injection eg with eg
  injection eg with _ eg
  cases eg
end
end Go.Proofs.YtkbffpadkdgbmaaGreatDoor.X
