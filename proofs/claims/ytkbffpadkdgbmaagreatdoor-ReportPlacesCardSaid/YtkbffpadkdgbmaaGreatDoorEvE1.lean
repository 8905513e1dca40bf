import Derived.Test.YtkbffpadkdgbmaaGreatDoorEvD4
/- Code. -/
namespace Go.Ev
open Go Go.RowKit Go.Lib
set_option linter.unusedVariables false
set_option linter.unusedSimpArgs false
set_option linter.deprecated false

section
variable {P : Program} {base : Nat} {G : List Nat} {σ τ : Emb} {s t : St} {w w' : World} {a b : Fr} {A : Act} {o : Oper} {v v' : Value} {ih : IH}

theorem region_of (hm : P.follows .mixedOrders = true) (hih : CallsOk P base G ih) {id : Nat} {ops : Array Oper} {draw : Bool} {k : KE} (hs : s.Ok)
    (h : optK (planOf G ops.toList draw) (fun l => evOps P ih l a s k) = true) : ∃ a' s', k .normal a' s' = true ∧ s'.Ok ∧ s.Up s' ∧
      ∀ σ A w Q, Rel P base G σ a s A w → (∀ τ A' w', Ext σ s τ s' → Rel P base G τ a' s' A' w' → Below base w w' → Q .normal A' w') → (Code.region id ops draw).wp P Q A w := by
  obtain ⟨l, hl, h1⟩ := optK_of h
  unfold planOf at hl
  cases hok : ops.toList.all (operOk G ops.toList)
  · rw [hok] at hl; cases hl
  · rw [hok, cond_true] at hl
    have hok' : ∀ o ∈ ops.toList, operOk G ops.toList o = true := fun o ho => List.all_eq_true.1 hok o ho
    cases draw with
    | false =>
      rw [cond_false] at hl
      cases hl
      obtain ⟨a', s', h2, ⟨h3, h3'⟩, h4⟩ := seq_of hih hok' ops.toList 0 a s k (by simp) hs h1
      refine ⟨a', s', h2, h3, h3', fun σ A w Q hr hq => wp_region ?_⟩
      have := h4 σ A w Q hr hq
      rw [List.range_eq_range']
      simpa using this
    | true =>
      rw [cond_true] at hl
      have hes := entsFrom_spec (ops := ops.toList) ops.toList 0
      have hEF : ∀ e ∈ entsFrom ops.toList 0 ops.toList, EF ops e := fun e he => by
        obtain ⟨kk, oo, h1, rfl⟩ := hes.1 e he
        rw [Nat.zero_add]
        exact entOf_EF (by rw [← Array.getElem?_toList]; exact h1)
      obtain ⟨tr, a', s', h2, h3, h4, h5, h6, hlen⟩ := trace_of hih (fun e he => (hEF e he).grd) ops.toList.length [] a s l k hl hs (di_nil a) h1
      refine ⟨a', s', h2, h3, good_up h4, fun σ A w Q hr hq => wp_region_any hm ?_⟩
      obtain ⟨N, r, hsp, hNq, hrr⟩ := split_quiet tr
      have h4' := h4
      rw [hsp] at h4'
      obtain ⟨b, u, g1, g2, g3⟩ := good_split h4' (di_nil a)
      simp only [List.append_nil] at g2 g3
      obtain ⟨grow, dfr⟩ := good_quiet g1 hNq
      have hb0 : ∀ i, (Array.replicate ops.size false).getD i false = false := fun i => by
        simp only [Array.getD_eq_getD_getElem?, Array.getElem?_replicate]
        split <;> rfl
      refine any_go (w0 := w) h4 (fun x hx => hEF _ (h5 x hx)) (fun i hi => ?_) hok' hr.gl (Q := Q) (fun τ A' w' x1 x2 x3 => hq τ A' w' x1 x2 x3) ops.size _ N r b u σ A _ ?_ ?_
      · obtain ⟨x, hx, hxi⟩ := h6 _ (hes.2 i ops[i] (by simp [hi]))
        rcases hx with hx | hx
        · exact ⟨x, hx, by rw [hxi]; exact Nat.zero_add i⟩
        · cases hx
      · refine ⟨hsp, g1, g2, hrr, by simp, fun x _ => hb0 _, fun x hx hxl => ?_, fun y _ hy => ?_, ?_, ⟨Emb.le.refl σ, grow.1, fun b hb hσ => ⟨hσ, grow.2 b hb⟩, (good_up g1).2⟩, (Below.refl base w).drew, hr.n, by rw [dfr]; exact hr.df, ?_, fun f hf hfu hfw => ?_⟩
        · rw [hNq x hx] at hxl; cases hxl
        · rw [hb0] at hy; cases hy
        · exact (hr.hr.world (w' := { w with drawn := w.drawn + 1 }) hr.hr.size (fun _ _ => rfl)).more grow.1 fun b hb => by
            obtain ⟨p, hp⟩ := hb
            exact grow.2 b (hr.hr.dom b p.1 p.2 hp)
        · refine ⟨a.at, hr.tm, fun x hx _ t ht hp => ?_, fun t ht => ?_⟩
          · obtain ⟨l1, l2, hx2⟩ := List.append_of_mem hx
            have h4x := h4
            rw [hx2] at h4x
            obtain ⟨q1, _, _, q4⟩ := good_at h4x
            refine (good_keep q4 fun y hy hyd => ?_).symm
            have h1 := q1.rd1 y (by simpa using hy) (isDst_of hyd ht)
            have h2 := hp y (by rw [hx2]; exact List.mem_append_left _ hy) (hb0 _) hyd
            rw [h1] at h2; cases h2
          · exact (good_keep h4 fun y hy => ht y hy (hb0 _)).symm
        · obtain ⟨n1, n2, hn⟩ := List.append_of_mem hf
          subst hn
          obtain ⟨f3, _, f4, q1⟩ := good_at g1
          have hfq := hNq f (by simp)
          obtain ⟨w1, _⟩ := good_quiet q1 fun y hy => hNq y (by simp [hy])
          obtain ⟨w2, _⟩ := good_quiet f4 fun y hy => hNq y (by simp [hy])
          obtain ⟨w3, _⟩ := sf_quiet f3 hfq
          rcases f3.step with ⟨q, _⟩ | ⟨_, _, q, _⟩ | ⟨_, q, _⟩
          · rw [hfw] at q; cases q
          · rcases q with (⟨_, q⟩ | ⟨X, q5, q6⟩) | ⟨q3, _, q4⟩
            · exact .inr ⟨f.a, fun _ _ => rfl, .inl q⟩
            · refine .inl ⟨X, q5, ?_, ?_, ?_, q6⟩
              · have := q5.next; have := w2.1; omega
              · cases hτ : σ f.s.next with
                | none => rfl
                | some p => have := hr.hr.dom _ p.1 p.2 hτ; have := w1.1; omega
              · rw [w2.2 _ (by have := q5.next; omega), q5.blk, if_pos rfl]
            · exact .inr ⟨f.a, fun _ _ => rfl, .inr ⟨q3, f.s, f3.ok, w3.trans w2, q4⟩⟩
          · rw [hfq] at q; cases q
      · exact Nat.le_trans (List.length_filter_le _ _) (by simpa using hlen)
end
end Go.Ev
