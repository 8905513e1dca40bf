import Derived.Test.YtcdddmaibchjjaaDoorProg
import Derived.Below
import Derived.Deep.Draws
import Derived.Deep.AppendLies
import Derived.Maps.AppendAt
import Derived.OwnWalk
import Derived.Laws.BytesArg
import Derived.Laws.MakeOwn
import Derived.Laws.OwnMore
import Derived.Deep.OwnRows
import Derived.Tactics
import Derived.Lib.ConvBytes
import Derived.Laws.Slices
import Derived.WalkKit
import Derived.KernelRfl
import Derived.RowKit3
import Derived.Deep.LoopGhost
import Derived.Deep.QuietTactic
import Derived.BigQuiet
import Derived.WideLaws
import Derived.Deep.DeepCutAuto
import Derived.Deep.CutBlock
import Derived.Deep.RegionHeld3
import Derived.Laws.Rows
import Derived.Lib.AppendStr
import Derived.ArgAppend
import Derived.Laws.IdiomCopy
import Derived.OrdersHeld
import Derived.Laws.BitsLemmas
import Derived.RowKit
import Derived.Test.YtcdddmaibchjjaaDoorXBase
import Derived.Test.YtcdddmaibchjjaaDoorV
import Derived.Test.YtcdddmaibchjjaaDoorX0
import Derived.RegionTactic
import Derived.ChangeAlike
import Derived.Test.YtcdddmaibchjjaaDoorH1
import Derived.Test.YtcdddmaibchjjaaDoorH2
import Derived.Test.YtcdddmaibchjjaaDoorH3
import Derived.Test.YtcdddmaibchjjaaDoorH5
import Derived.Test.YtcdddmaibchjjaaDoorH6
import Derived.Test.YtcdddmaibchjjaaDoorH7
import Derived.Test.YtcdddmaibchjjaaDoorH8
import Derived.Test.YtcdddmaibchjjaaDoorHT
import Derived.Laws.Bits64b
import Derived.Lib.TrailingZeros
namespace Go.Proofs.YtcdddmaibchjjaaDoor.X
open Go.RowKit Go.Proofs.YtcdddmaibchjjaaDoorW.PrintWords Go.Proofs.YtcdddmaibchjjaaDoorW.PrintLast Go.Proofs.YtcdddmaibchjjaaDoorW.PrintMore
set_option linter.unusedVariables false
set_option linter.unusedSimpArgs false
set_option maxHeartbeats 1000000
set_option maxRecDepth 100000
/-! ### solved, Longest -/
theorem Srch.lower {b b' : Nat} {w : World} {gs gf gd ge n : Nat} {S : Int} {vs : List Value} {rows : List (List S34)} {far edges : List Int} (h : Srch b w gs gf gd ge n S vs rows far edges) (hb : b' ≤ b) : Srch b' w gs gf gd ge n S vs rows far edges :=
  { h with bs := Nat.le_trans hb h.bs, bf := Nat.le_trans hb h.bf, bd := Nat.le_trans hb h.bd, be := Nat.le_trans hb h.be, hr := fun p hp => Kd.R_lower (h.hr p hp) hb }
theorem rightF_says {n : Int} {l : List S34} (h : rightF n l = true) : (1 ≤ n ∧ n ≤ 64) ∧ l.length ≤ 1000 ∧ ∀ e ∈ l, (0 ≤ e.f0 ∧ e.f0 < n) ∧ 0 ≤ e.f1 ∧ e.f1 < n ∧ 0 ≤ e.f2 ∧ e.f2 ≤ 6000 := by
  unfold rightF at h
  simp only [Bool.and_eq_true, decide_eq_true_eq, Bool.not_eq_true'] at h
  obtain ⟨⟨⟨h1, h2⟩, h3⟩, h4⟩ := h
  refine ⟨⟨h1, h2⟩, h3, fun e he => ?_⟩
  have h5 : eB n e = false := by
    cases hh : eB n e with
    | false => rfl
    | true => rw [List.any_eq_true.2 ⟨e, he, hh⟩] at h4; cases h4
  unfold eB eBad inP at h5
  simp only [Bool.or_eq_false_iff, Bool.not_eq_false', Bool.and_eq_true, decide_eq_true_eq, decide_eq_false_iff_not] at h5
  omega
def start (n : Nat) : List Int := (List.replicate n (-1)).set 0 0
def solvedF (k : Nat) (n : Int) (l : List S34) : Option (Option (List Int × List Int) × Int) :=
  if rightF n l = true then (runF n.toNat (rowsOf n.toNat l) k (sPut 0 0) (start n.toNat) (List.replicate n.toNat 0)).bind fun r => some (r, if r.isSome then 0 else 140) else some (none, 1)
theorem start_len (n : Nat) : (start n).length = n := by unfold start; simp
theorem rd_rep {n : Nat} {v : Int} (x : Int) (h0 : 0 ≤ v) (h1 : v < n) : rd (List.replicate n x) v = x := by
  unfold rd
  rw [List.getD_eq_getElem?_getD, List.getElem?_replicate, if_pos (by omega)]
  rfl
theorem rd_start {n : Nat} {v : Int} (h0 : 0 ≤ v) (h1 : v < n) : rd (start n) v = if v = 0 then 0 else -1 := by
  unfold start
  have e := rd_set (l := List.replicate n (-1)) (i := 0) (j := v) (by decide) (by simp; omega) h0 0
  rw [show (0 : Int).toNat = 0 from rfl] at e
  rw [e, rd_rep _ h0 h1]
theorem Bd.start {n : Nat} (hn : 1 ≤ n) : Bd n (start n) (List.replicate n 0) := by
  refine ⟨start_len n, by simp, fun v h0 h1 => ?_⟩
  rw [rd_start h0 h1, rd_rep _ h0 h1]
  split <;> omega
theorem Pts.start {n : Nat} (hn : 1 ≤ n) : Pts n (sPut 0 0) := by
  refine ⟨_, SetOf.zero.put (q := 0) (by decide) (by decide), fun i hi => ?_⟩
  simp at hi
  omega
def SolvedPost (n : Nat) (l : List S34) (r : Option (List Int × List Int) × Int) (w : World) (e : Ending) (w' : World) : Prop :=
  Below w.heap.size w w' ∧ ((r.1 = none ∧ e = .returned (.tuple #[.pointer none, .int .i64 r.2])) ∨ ∃ fe gs gf gd ge vs S, r.1 = some fe ∧ r.2 = 0 ∧ e = .returned (.tuple #[.pointer (some ⟨gs, 0, none⟩), .int .i64 0]) ∧ Bd n fe.1 fe.2 ∧ Srch w.heap.size w' gs gf gd ge n S vs (rowsOf n l) fe.1 fe.2)
theorem paths_solved.calls (k : Nat) (n : Int) (A : Option Addr) (c0 : Nat) (l : List S34) (r : Option (List Int × List Int) × Int) (w : World) (hr : Kd.C k34 w A l.length l) (h : solvedF k n l = some r) (hT : TabOK w) :
    Calls Tryd.prog 15 #[.int .i64 n, .slice A l.length c0] w (SolvedPost n.toNat l r w) := by
  have HR := Aside0.mk hr
  have GT := Aside0.mk hT
  have HB := Aside0.mk (Below.refl w.heap.size w)
  unfold solvedF at h
  by_cases c : rightF n l = true
  · rw [if_pos c] at h
    obtain ⟨rr, hrr, h⟩ := Option.bind_eq_some_iff.1 h
    obtain rfl := Option.some.inj h
    have HC := Aside0.mk c
    have HQ := Aside0.mk (rightF_says c)
    have HA := Aside0.mk hrr
    obtain ⟨m, rfl⟩ := Int.eq_ofNat_of_zero_le (show 0 ≤ n by have := HQ.out.1; omega)
    rw [Int.toNat_natCast] at HA ⊢
    clear hr hT c hrr h
    cases rr with
    | none =>
      go_enter Tryd.func15, Tryd.ntmps15
      go_wp2_with (first | (go_at_call 22; refine (paths_right.calls m A c0 l _ HR.out).mono ?_; rintro e w1 ⟨he, hb⟩; rw [HC.out] at he; subst he; replace HB := bs HB hb; clear hb) | (go_at_call 23; refine (paths_open.calls m A c0 l _ (by have := HQ.out.1; omega) (by have := HQ.out.1; omega) HQ.out.2.1 (fun e he => by have := HQ.out.2.2 e he; omega) (Kd.C_below HR.out (bf HB))).mono ?_; rintro e w2 ⟨gs, gf, gd, ge, vs, rfl, hs, hb⟩; have HS := Aside0.mk (hs.lower (below_size (bf HB))); replace HB := bs HB hb; clear hb hs) | (go_at_call 24; refine (paths_run.calls m gs gf gd ge vs (rowsOf m l) (sPut 0 0) (start m) (List.replicate m 0) k none w _ (by have := HQ.out.1; omega) (bf HB) GT.out HS.out (Bd.start (by have := HQ.out.1; omega)) (Pts.start (by have := HQ.out.1; omega)) (fun q hq => ⟨Nat.le_trans (rows_le m l q l (Nat.le_refl _)) HQ.out.2.1, fun e he => by rw [rowsOf_get m l hq] at he; have := HQ.out.2.2 e (List.mem_filter.1 he).1; exact ⟨by omega, by omega, by omega, by omega⟩⟩) HA.out).mono ?_; rintro e w3 ⟨rfl, _, hb⟩; have HB3 := Aside0.mk hb; clear hb))
      go_ret2
      exact ⟨HB3.out, .inl ⟨rfl, rfl⟩⟩
    | some fe =>
      go_enter Tryd.func15, Tryd.ntmps15
      go_wp2_with (first | (go_at_call 22; refine (paths_right.calls m A c0 l _ HR.out).mono ?_; rintro e w1 ⟨he, hb⟩; rw [HC.out] at he; subst he; replace HB := bs HB hb; clear hb) | (go_at_call 23; refine (paths_open.calls m A c0 l _ (by have := HQ.out.1; omega) (by have := HQ.out.1; omega) HQ.out.2.1 (fun e he => by have := HQ.out.2.2 e he; omega) (Kd.C_below HR.out (bf HB))).mono ?_; rintro e w2 ⟨gs, gf, gd, ge, vs, rfl, hs, hb⟩; have HS := Aside0.mk (hs.lower (below_size (bf HB))); replace HB := bs HB hb; clear hb hs) | (go_at_call 24; refine (paths_run.calls m gs gf gd ge vs (rowsOf m l) (sPut 0 0) (start m) (List.replicate m 0) k (some fe) w _ (by have := HQ.out.1; omega) (bf HB) GT.out HS.out (Bd.start (by have := HQ.out.1; omega)) (Pts.start (by have := HQ.out.1; omega)) (fun q hq => ⟨Nat.le_trans (rows_le m l q l (Nat.le_refl _)) HQ.out.2.1, fun e he => by rw [rowsOf_get m l hq] at he; have := HQ.out.2.2 e (List.mem_filter.1 he).1; exact ⟨by omega, by omega, by omega, by omega⟩⟩) HA.out).mono ?_; rintro e w3 ⟨rfl, hs, hb⟩; have HS3 := Aside0.mk (hs fe rfl); have HB3 := Aside0.mk hb; clear hb hs))
      go_ret2
      exact ⟨HB3.out, .inr ⟨fe, gs, gf, gd, ge, vs, HS3.out.2.choose, rfl, rfl, rfl, HS3.out.1, HS3.out.2.choose_spec⟩⟩
  · rw [if_neg c] at h
    obtain rfl := Option.some.inj h
    have HC := Aside0.mk (Bool.eq_false_iff.mpr c)
    clear hr hT c h
    go_enter Tryd.func15, Tryd.ntmps15
    go_wp2_with (first | (go_at_call 22; refine (paths_right.calls n A c0 l _ HR.out).mono ?_; rintro e w1 ⟨he, hb⟩; rw [HC.out] at he; subst he; replace HB := bs HB hb; clear hb))
    go_ret2
    exact ⟨bf HB, .inl ⟨rfl, rfl⟩⟩
def paths_Longest.f (k : Nat) (n : Int) (l : List S34) : Option (List Int × Int) := (solvedF k n l).bind fun r => match r.1 with | none => some ([], r.2) | some fe => some (fe.1, 0)
theorem far_R {b : Nat} {w : World} {gs gf gd ge n : Nat} {S : Int} {vs : List Value} {rows : List (List S34)} {far edges : List Int} (h : Srch b w gs gf gd ge n S vs rows far edges) (hn : n ≤ 64) : Kd.R (Kd.int .i64) 2 w b (fun _ => True) (.slice (some ⟨gd, 0, none⟩) n n) far := by
  refine Kd.R_of_own (enc := Value.int .i64) (h1 := fun _ => rfl) ?_ (fun _ _ => trivial)
  refine ⟨by simp [encs], .inr ⟨gd, n, _, by rw [h.ld], h.bd, h.hd, by rw [h.ld]; omega, by unfold maxLen; omega, by simp [h.ld], ?_⟩⟩
  simp [encs]
  rw [List.take_of_length_le (by simp)]
theorem solved_n {k : Nat} {n : Int} {l : List S34} {fe : List Int × List Int} {x : Int} (h : solvedF k n l = some (some fe, x)) : x = 0 ∧ n.toNat ≤ 64 := by
  unfold solvedF at h
  by_cases c : rightF n l = true
  · rw [if_pos c] at h
    obtain ⟨rr, _, h⟩ := Option.bind_eq_some_iff.1 h
    simp only [Option.some.injEq, Prod.mk.injEq] at h
    obtain ⟨rfl, h2⟩ := h
    have := rightF_says c
    exact ⟨h2.symm, by omega⟩
  · rw [if_neg c] at h
    simp at h
theorem solved_err {k : Nat} {n : Int} {l : List S34} {x : Int} (h : solvedF k n l = some (none, x)) : x = 1 ∨ x = 140 := by
  unfold solvedF at h
  by_cases c : rightF n l = true
  · rw [if_pos c] at h
    obtain ⟨rr, _, h⟩ := Option.bind_eq_some_iff.1 h
    simp only [Option.some.injEq, Prod.mk.injEq] at h
    obtain ⟨rfl, h2⟩ := h
    exact .inr h2.symm
  · rw [if_neg c] at h
    simp only [Option.some.injEq, Prod.mk.injEq] at h
    exact .inl h.2.symm
theorem paths_Longest.calls (k : Nat) (n : Int) (A : Option Addr) (c0 : Nat) (l : List S34) (r1 : List Int) (r2 : Int) (w : World) (hr : Kd.C k34 w A l.length l) (hc : l.length ≤ c0) (h : paths_Longest.f k n l = some (r1, r2)) (hT : TabOK w) :
    Calls Tryd.prog 8 #[.int .i64 n, .slice A l.length c0] w fun e w' => ∃ v0_ : Value, e = .returned (.tuple #[v0_, .int .i64 r2]) ∧ Kd.R (Kd.int .i64) 2 w' w.heap.size (fun _ => True) v0_ r1 ∧ Below w.heap.size w w' := by
  have hu44 := Tryd.underlying44
  have HR := Aside0.mk hr
  have GT := Aside0.mk hT
  unfold paths_Longest.f at h
  obtain ⟨⟨rr, x⟩, hrr, h⟩ := Option.bind_eq_some_iff.1 h
  have HA := Aside0.mk hrr
  cases rr with
  | none =>
    simp only [Option.some.injEq, Prod.mk.injEq] at h
    obtain ⟨rfl, rfl⟩ := h
    have hx := solved_err hrr
    have x0 : (x == 0) = false := beq_eq_false_iff_ne.mpr (by omega)
    have x1 : (x != 0) = true := bne_iff_ne.mpr (by omega)
    clear hr hc hT hrr hx
    go_enter Tryd.func8, Tryd.ntmps8
    go_wp2_with (first | (go_at_call 15; refine (paths_solved.calls k n A c0 l _ _ HR.out HA.out GT.out).mono ?_; rintro e w1 ⟨hb, hor⟩; rcases hor with ⟨_, rfl⟩ | ⟨_, _, _, _, _, _, _, hcc, _⟩; rotate_left; (cases hcc); have HB := Aside0.mk hb; clear hb))
    go_ret2
    exact ⟨_, rfl, Kd.R_nil _ _ _ _ _, HB.out⟩
  | some fe =>
    simp only [Option.some.injEq, Prod.mk.injEq] at h
    obtain ⟨rfl, rfl⟩ := h
    have HQ := Aside0.mk (solved_n hrr)
    clear hr hc hT hrr
    go_enter Tryd.func8, Tryd.ntmps8
    go_wp2_with (first | (go_at_call 15; refine (paths_solved.calls k n A c0 l _ _ HR.out HA.out GT.out).mono ?_; rintro e w1 ⟨hb, hor⟩; rcases hor with ⟨hcc, _⟩ | ⟨_, gs, gf, gd, ge, vs, S, hcc, hx, rfl, hbd, hs⟩; (cases hcc); cases hcc; have HB := Aside0.mk hb; have HS := Aside0.mk hs; clear hb hs hbd hx; have hys := X.k4 (Aside0.mk HS.out.hs)))
    go_ret2
    exact ⟨_, rfl, far_R HS.out HQ.out.2, HB.out⟩
end Go.Proofs.YtcdddmaibchjjaaDoor.X
