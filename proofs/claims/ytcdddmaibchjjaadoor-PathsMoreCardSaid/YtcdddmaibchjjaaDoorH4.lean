import Derived.Test.YtcdddmaibchjjaaDoorProg
import Derived.Below
import Derived.Deep.Draws
import Derived.Deep.AppendLies
import Derived.Maps.AppendAt
import Derived.OwnWalk
import Derived.Laws.BytesArg
import Derived.Laws.MakeOwn
import Derived.Laws.OwnMore
import Derived.Deep.OwnRows
import Derived.Tactics
import Derived.Lib.ConvBytes
import Derived.Laws.Slices
import Derived.WalkKit
import Derived.KernelRfl
import Derived.RowKit3
import Derived.Deep.LoopGhost
import Derived.Deep.QuietTactic
import Derived.BigQuiet
import Derived.WideLaws
import Derived.Deep.DeepCutAuto
import Derived.Deep.CutBlock
import Derived.Deep.RegionHeld3
import Derived.Laws.Rows
import Derived.Lib.AppendStr
import Derived.ArgAppend
import Derived.Laws.IdiomCopy
import Derived.OrdersHeld
import Derived.Laws.BitsLemmas
import Derived.RowKit
import Derived.Test.YtcdddmaibchjjaaDoorXBase
import Derived.Test.YtcdddmaibchjjaaDoorV
import Derived.Test.YtcdddmaibchjjaaDoorX0
import Derived.RegionTactic
import Derived.ChangeAlike
import Derived.Test.YtcdddmaibchjjaaDoorH1
import Derived.Test.YtcdddmaibchjjaaDoorH2
import Derived.Test.YtcdddmaibchjjaaDoorH3
namespace Go.Proofs.YtcdddmaibchjjaaDoor.X
open Go.RowKit Go.Proofs.YtcdddmaibchjjaaDoorW.PrintWords Go.Proofs.YtcdddmaibchjjaaDoorW.PrintLast Go.Proofs.YtcdddmaibchjjaaDoorW.PrintMore
set_option linter.unusedVariables false
set_option linter.unusedSimpArgs false
set_option maxHeartbeats 1000000
set_option maxRecDepth 100000
/-! ### what is known of a search in memory -/
abbrev nilS : Value := .slice none 0 0
abbrev iA (l : List Int) : Array Value := (l.map (Value.int .i64)).toArray
/-- The search's own cells: its struct, the rows of edges by points, the lengths, the numbers of edges. -/
structure Srch (b : Nat) (w : World) (gs gf gd ge n : Nat) (S : Int) (vs : List Value) (rows : List (List S34)) (far edges : List Int) : Prop where
  hs : w.heap[gs]? = some (.cells #[.int .u64 S, .slice (some ⟨gf, 0, none⟩) n n, .slice (some ⟨gd, 0, none⟩) n n, .slice (some ⟨ge, 0, none⟩) n n] 44 (0, 0))
  hf : w.heap[gf]? = some (.cells vs.toArray 22 (0, 0))
  hd : w.heap[gd]? = some (.cells (iA far) 2 (0, 0))
  he : w.heap[ge]? = some (.cells (iA edges) 3 (0, 0))
  lv : vs.length = n
  lr : rows.length = n
  ld : far.length = n
  le : edges.length = n
  bs : b ≤ gs
  bf : b ≤ gf
  bd : b ≤ gd
  be : b ≤ ge
  hr : ∀ p, p < n → Kd.R k34 34 w b (fun k => ∀ q, q < n → q ≠ p → some k ≠ (vs.getD q nilS).ownBlock) (vs.getD p nilS) (rows.getD p [])
theorem blk_ne {w : World} {g g' t t' : Nat} {cs cs' : Array Value} (h : w.heap[g]? = some (.cells cs t (0, 0))) (h' : w.heap[g']? = some (.cells cs' t' (0, 0))) (ht : t ≠ t') : g ≠ g' := by
  rintro rfl
  rw [h] at h'
  injection h' with h'
  injection h' with _ h'
  exact ht h'
section
variable {b : Nat} {w w1 : World} {gs gf gd ge n : Nat} {S : Int} {vs : List Value} {rows : List (List S34)} {far edges : List Int}
theorem Srch.below (h : Srch b w gs gf gd ge n S vs rows far edges) (hb : Below w.heap.size w w1) : Srch b w1 gs gf gd ge n S vs rows far edges :=
  { h with hs := blk_below h.hs hb, hf := blk_below h.hf hb, hd := blk_below h.hd hb, he := blk_below h.he hb, hr := fun p hp => Kd.R_below (h.hr p hp) hb }
theorem Srch.drew (h : Srch b w gs gf gd ge n S vs rows far edges) : Srch b w.drew gs gf gd ge n S vs rows far edges := h.below (below_drew (Below.refl _ _))
theorem Srch.drewN (h : Srch b w gs gf gd ge n S vs rows far edges) (m : Nat) : Srch b (w.drewN m) gs gf gd ge n S vs rows far edges := h.below (pw_below_drewN (Below.refl _ _) m)
theorem Srch.alloc (h : Srch b w gs gf gd ge n S vs rows far edges) (o : Obj) : Srch b (w.alloc o) gs gf gd ge n S vs rows far edges := h.below (below_alloc (Below.refl _ _) o)
/-- A cell of another block (of another type than the edges') is written. -/
theorem Srch.far_ (h : Srch b w gs gf gd ge n S vs rows far edges) {g t : Nat} {cs : Array Value} (hg : w.heap[g]? = some (.cells cs t (0, 0))) (h1 : g ≠ gs) (h2 : g ≠ gf) (h3 : g ≠ gd) (h4 : g ≠ ge) (ht : (34 : Nat) ≠ t) (j : Nat) (u : Value) : Srch b (w.setCell ⟨g, j, none⟩ u) gs gf gd ge n S vs rows far edges :=
  { h with hs := blk_far h.hs h1.symm u, hf := blk_far h.hf h2.symm u, hd := blk_far h.hd h3.symm u, he := blk_far h.he h4.symm u, hr := fun p hp => Kd.R_set (h.hr p hp) hg (fun q hq => by rcases List.mem_cons.1 hq with rfl | hq; exact ht; cases hq) j u }
theorem Srch.setS (h : Srch b w gs gf gd ge n S vs rows far edges) (x : Int) : Srch b (w.setCell ⟨gs, 0, none⟩ (.int .u64 x)) gs gf gd ge n x vs rows far edges :=
  { h with hs := blk_set h.hs 0 _, hf := blk_far h.hf (blk_ne h.hf h.hs (by decide)) _, hd := blk_far h.hd (blk_ne h.hd h.hs (by decide)) _, he := blk_far h.he (blk_ne h.he h.hs (by decide)) _, hr := fun p hp => Kd.R_set (h.hr p hp) h.hs (fun q hq => by rcases List.mem_cons.1 hq with rfl | hq; decide; cases hq) 0 _ }
theorem iA_set (l : List Int) (i : Nat) (x : Int) : (iA l).setIfInBounds i (.int .i64 x) = iA (l.set i x) := by
  unfold iA
  rw [List.setIfInBounds_toArray, List.map_set]
theorem Srch.setD (h : Srch b w gs gf gd ge n S vs rows far edges) (i : Nat) (x : Int) : Srch b (w.setCell ⟨gd, i, none⟩ (.int .i64 x)) gs gf gd ge n S vs rows (far.set i x) edges :=
  { h with hs := blk_far h.hs (blk_ne h.hs h.hd (by decide)) _, hf := blk_far h.hf (blk_ne h.hf h.hd (by decide)) _, hd := (blk_set h.hd i _).trans (by rw [iA_set]), he := blk_far h.he (blk_ne h.he h.hd (by decide)) _, ld := by rw [List.length_set]; exact h.ld, hr := fun p hp => Kd.R_set (h.hr p hp) h.hd (fun q hq => by rcases List.mem_cons.1 hq with rfl | hq; decide; cases hq) i _ }
theorem Srch.setE (h : Srch b w gs gf gd ge n S vs rows far edges) (i : Nat) (x : Int) : Srch b (w.setCell ⟨ge, i, none⟩ (.int .i64 x)) gs gf gd ge n S vs rows far (edges.set i x) :=
  { h with hs := blk_far h.hs (blk_ne h.hs h.he (by decide)) _, hf := blk_far h.hf (blk_ne h.hf h.he (by decide)) _, hd := blk_far h.hd (blk_ne h.hd h.he (by decide)) _, he := (blk_set h.he i _).trans (by rw [iA_set]), le := by rw [List.length_set]; exact h.le, hr := fun p hp => Kd.R_set (h.hr p hp) h.he (fun q hq => by rcases List.mem_cons.1 hq with rfl | hq; decide; cases hq) i _ }
theorem iA_get (l : List Int) (i : Nat) (hi : i < l.length) : (iA l)[i]? = some (.int .i64 (rd l (i : Int))) := by
  unfold iA rd
  simp [hi]
theorem Srch.cd (h : Srch b w gs gf gd ge n S vs rows far edges) (x : Int) (h0 : 0 ≤ x) (h1 : x < n) : w.cell? ⟨gd, x.toNat, none⟩ = some (.int .i64 (rd far x)) := by
  obtain ⟨i, rfl⟩ := Int.eq_ofNat_of_zero_le h0
  exact (blk_cell h.hd i).trans (iA_get far i (by rw [h.ld]; omega))
theorem Srch.ce (h : Srch b w gs gf gd ge n S vs rows far edges) (x : Int) (h0 : 0 ≤ x) (h1 : x < n) : w.cell? ⟨ge, x.toNat, none⟩ = some (.int .i64 (rd edges x)) := by
  obtain ⟨i, rfl⟩ := Int.eq_ofNat_of_zero_le h0
  exact (blk_cell h.he i).trans (iA_get edges i (by rw [h.le]; omega))
theorem Srch.cf (h : Srch b w gs gf gd ge n S vs rows far edges) (x : Int) (h0 : 0 ≤ x) (h1 : x < n) : w.cell? ⟨gf, x.toNat, none⟩ = some (vs.getD x.toNat nilS) := by
  rw [blk_cell h.hf]
  have : x.toNat < vs.length := by rw [h.lv]; omega
  simp [this, List.getD_eq_getElem?_getD]
/-- A row has been appended to (its value is v1 now), and stored. -/
theorem Srch.pushed (h : Srch b w gs gf gd ge n S vs rows far edges) {p : Nat} (hp : p < n) {v1 : Value} {row : List S34}
    (hR : Kd.R k34 34 w1 b (fun k => (∀ q, q < n → q ≠ p → some k ≠ (vs.getD q nilS).ownBlock)) v1 row)
    (hg : w.grownBy w1 (vs.getD p nilS).ownBlock) (hat : v1.ownBlock = (vs.getD p nilS).ownBlock ∨ ∃ g, v1.ownBlock = some g ∧ w.heap.size ≤ g) :
    Srch b (w1.setCell ⟨gf, p, none⟩ v1) gs gf gd ge n S (vs.set p v1) (rows.set p row) far edges := by
  have hne : ∀ {g t : Nat} {cs : Array Value}, w.heap[g]? = some (.cells cs t (0, 0)) → (34 : Nat) ≠ t → some g ≠ (vs.getD p nilS).ownBlock := fun hb ht => Kd.R_ne (h.hr p hp) hb ht
  have mv : ∀ {g t : Nat} {cs : Array Value}, w.heap[g]? = some (.cells cs t (0, 0)) → (34 : Nat) ≠ t → w1.heap[g]? = some (.cells cs t (0, 0)) := fun hb ht => blk_grown hb hg (hne hb ht)
  have hs := mv h.hs (by decide)
  have hf := mv h.hf (by decide)
  have hd := mv h.hd (by decide)
  have he := mv h.he (by decide)
  have gp : (vs.set p v1).getD p nilS = v1 := by rw [List.getD_eq_getElem?_getD, List.getElem?_set_self (by rw [h.lv]; exact hp)]; rfl
  have gq : ∀ q, q ≠ p → (vs.set p v1).getD q nilS = vs.getD q nilS := fun q hq => by rw [List.getD_eq_getElem?_getD, List.getElem?_set_ne (Ne.symm hq), ← List.getD_eq_getElem?_getD]
  refine ⟨blk_far hs (blk_ne hs hf (by decide)) _, (blk_set hf p v1).trans (by rw [List.setIfInBounds_toArray]), blk_far hd (blk_ne hd hf (by decide)) _, blk_far he (blk_ne he hf (by decide)) _, by rw [List.length_set]; exact h.lv, by rw [List.length_set]; exact h.lr, h.ld, h.le, h.bs, h.bf, h.bd, h.be, fun q hq => ?_⟩
  have own_old : ∀ q k, q < n → (vs.getD q nilS).ownBlock = some k → k < w.heap.size := fun q k hq hk => by
    obtain ⟨_, ho⟩ := Kd.R_own (h.hr q hq)
    exact own_lt ho k hk
  by_cases e : q = p
  · subst e
    rw [gp]
    have gr : (rows.set q row).getD q [] = row := by rw [List.getD_eq_getElem?_getD, List.getElem?_set_self (by rw [h.lr]; exact hp)]; rfl
    rw [gr]
    refine Kd.R_set (Kd.R_mono hR (fun k hk r hr hne => ?_)) hf (fun q hq => by rcases List.mem_cons.1 hq with rfl | hq; decide; cases hq) _ _
    rw [gq r hne]
    exact hk r hr hne
  · rw [gq q e]
    have gr : (rows.set p row).getD q [] = rows.getD q [] := by rw [List.getD_eq_getElem?_getD, List.getElem?_set_ne (Ne.symm e), ← List.getD_eq_getElem?_getD]
    rw [gr]
    have h1 := Kd.R_grown (Kd.R_bound (h.hr q hq)) hg (fun k hk => hk.1 p hp (Ne.symm e))
    refine Kd.R_set (Kd.R_mono h1 (fun k hk r hr hne => ?_)) hf (fun q hq => by rcases List.mem_cons.1 hq with rfl | hq; decide; cases hq) _ _
    by_cases e2 : r = p
    · subst e2
      rw [gp]
      rcases hat with hat | ⟨g, hv, hle⟩
      · rw [hat]
        exact hk.1 r hp (Ne.symm e)
      · rw [hv]
        intro he2
        injection he2 with he2
        have := hk.2.2.1
        omega
    · rw [gq r e2]
      exact hk.1 r hr hne
end
end Go.Proofs.YtcdddmaibchjjaaDoor.X
