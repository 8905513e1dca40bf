import Derived.Test.YtkbffpadkdgbmaaGreatDoorEvB
/- What each step of the evaluator tells, where it comes to its end. -/
namespace Go.Ev
open Go
set_option linter.unusedVariables false
set_option linter.unusedSimpArgs false
set_option linter.deprecated false

theorem no {p : Prop} (h : false = true) : p := absurd h (by decide)

section
variable {α β : Type}
theorem boolK_of {v : Value} {k : Bool → Bool} (h : boolK v k = true) : ∃ b, v = .bool b ∧ k b = true := by
  cases v <;> first | exact no h | exact ⟨_, rfl, h⟩
theorem intK_of {v : Value} {k : IntKind → Int → Bool} (h : intK v k = true) : ∃ t n, v = .int t n ∧ k t n = true := by
  cases v <;> first | exact no h | exact ⟨_, _, rfl, h⟩
theorem strK_of {v : Value} {k : List UInt8 → Bool} (h : strK v k = true) : ∃ b, v = .string b ∧ k b.data.toList = true := by
  cases v <;> first | exact no h | exact ⟨_, rfl, h⟩
theorem ptrK_of {v : Value} {k : Option Addr → Bool} (h : ptrK v k = true) : ∃ p, v = .pointer p ∧ k p = true := by
  cases v <;> first | exact no h | exact ⟨_, rfl, h⟩
theorem sliceK_of {v : Value} {k : Option Addr → Nat → Nat → Bool} (h : sliceK v k = true) : ∃ p n c, v = .slice p n c ∧ k p n c = true := by
  cases v <;> first | exact no h | exact ⟨_, _, _, rfl, h⟩
theorem mapK_of {v : Value} {k : Option Nat → Bool} (h : mapK v k = true) : ∃ p, v = .map p ∧ k p = true := by
  cases v <;> first | exact no h | exact ⟨_, rfl, h⟩
theorem fnK_of {f : Fn} {k : FuncId → Bool} (h : fnK f k = true) : ∃ g, f = .func g ∧ k g = true := by
  cases f <;> first | exact no h | exact ⟨_, rfl, h⟩
theorem funcK_of {v : Value} {k : FuncId → List Value → List Value → Bool} (h : funcK v k = true) :
    ∃ g a b, v = .func (.func g) ⟨a⟩ ⟨b⟩ ∧ k g a b = true := by
  cases v <;> first
    | exact no h
    | (rename_i fn a b
       obtain ⟨g, rfl, hk⟩ := fnK_of (f := fn) (k := fun f => k f a.toList b.toList) h
       exact ⟨g, a.toList, b.toList, rfl, hk⟩)
theorem aggK_of {v : Value} {k : List Value → Bool} (h : aggK v k = true) : ∃ c, v = .agg ⟨c⟩ ∧ k c = true := by
  cases v <;> first | exact no h | exact ⟨_, rfl, h⟩
theorem tupK_of {v : Value} {k : List Value → Bool} (h : tupK v k = true) : ∃ c, v = .tuple ⟨c⟩ ∧ k c = true := by
  cases v <;> first | exact no h | exact ⟨_, rfl, h⟩
theorem cellsL_eq (v : Value) : cellsL v = v.cells.toList := by cases v <;> rfl
theorem optK_of {o : Option α} {k : α → Bool} (h : optK o k = true) : ∃ a, o = some a ∧ k a = true := by
  cases o <;> first | exact no h | exact ⟨_, rfl, h⟩
theorem natK_of {n : Int} {k : Nat → Bool} (h : natK n k = true) : ∃ m : Nat, n = m ∧ k m = true := by
  cases n <;> first | exact no h | exact ⟨_, rfl, h⟩
theorem addrK_of {a : Addr} {k : Nat → Nat → Bool} (h : addrK a k = true) : ∃ b o, a = ⟨b, o, none⟩ ∧ k b o = true := by
  obtain ⟨b, o, s⟩ := a
  cases s <;> first | exact no h | exact ⟨_, _, rfl, h⟩
theorem intNatK_of {v : Value} {k : Nat → Bool} (h : intNatK v k = true) : ∃ t, ∃ m : Nat, v = .int t m ∧ k m = true := by
  obtain ⟨t, n, rfl, h⟩ := intK_of h
  obtain ⟨m, rfl, h⟩ := natK_of h
  exact ⟨t, m, rfl, h⟩
theorem cond_of {b : Bool} {x : Bool} (h : (bif b then x else false) = true) : b = true ∧ x = true := by cases b <;> simp_all
theorem cond_of' {b : Bool} {x : Bool} (h : (bif b then false else x) = true) : b = false ∧ x = true := by cases b <;> simp_all

theorem lenL_eq (l : List α) : lenL l = l.length := by
  induction l with
  | nil => rfl
  | cons a l ih => show Nat.succ (lenL l) = _; rw [ih]; rfl
theorem dropL_eq : ∀ (n : Nat) (l : List α), dropL n l = l.drop n
  | 0, _ => rfl
  | n + 1, [] => rfl
  | n + 1, _ :: l => dropL_eq n l
theorem takeK_of : ∀ {n : Nat} {l : List α} {k : List α → Bool}, takeK n l k = true → n ≤ l.length ∧ k (l.take n) = true
  | 0, _, _, h => ⟨Nat.zero_le _, h⟩
  | _ + 1, [], _, h => no h
  | n + 1, a :: l, k, h => by
    obtain ⟨h1, h2⟩ := takeK_of (n := n) (l := l) (k := fun r => k (a :: r)) h
    exact ⟨Nat.succ_le_succ h1, h2⟩
theorem appL_eq (x y : List α) : appL x y = x ++ y := by
  induction x with
  | nil => rfl
  | cons a l ih => show a :: appL l y = _; rw [ih]; rfl
theorem nthK_of : ∀ {n : Nat} {l : List α} {k : α → Bool}, nthK n l k = true → ∃ a, l[n]? = some a ∧ k a = true
  | 0, [], _, h => no h
  | 0, a :: _, _, h => ⟨a, rfl, h⟩
  | _ + 1, [], _, h => no h
  | n + 1, _ :: l, k, h => nthK_of (n := n) (l := l) (k := k) h
theorem overK_of : ∀ {vs l : List α} {k : List α → Bool}, overK vs l k = true → vs.length ≤ l.length ∧ k (vs ++ l.drop vs.length) = true
  | [], _, _, h => ⟨Nat.zero_le _, h⟩
  | _ :: _, [], _, h => no h
  | v :: vs, _ :: l, k, h => by
    obtain ⟨h1, h2⟩ := overK_of (vs := vs) (l := l) (k := fun r => k (v :: r)) h
    exact ⟨Nat.succ_le_succ h1, h2⟩
theorem overAtK_of : ∀ {n : Nat} {vs l : List α} {k : List α → Bool}, overAtK n vs l k = true →
    n + vs.length ≤ l.length ∧ k (l.take n ++ vs ++ l.drop (n + vs.length)) = true
  | 0, vs, l, k, h => by
    obtain ⟨h1, h2⟩ := overK_of (vs := vs) (l := l) (k := k) h
    exact ⟨by omega, by simpa using h2⟩
  | _ + 1, _, [], _, h => no h
  | n + 1, vs, a :: l, k, h => by
    obtain ⟨h1, h2⟩ := overAtK_of (n := n) (vs := vs) (l := l) (k := fun r => k (a :: r)) h
    refine ⟨by simp only [List.length_cons]; omega, ?_⟩
    have e : n + 1 + vs.length = (n + vs.length) + 1 := by omega
    rw [e, List.take_succ_cons, List.drop_succ_cons]
    simpa using h2
theorem mapL_eq (f : α → β) (l : List α) : mapL f l = l.map f := by
  induction l with
  | nil => rfl
  | cons a l ih => show f a :: mapL f l = _; rw [ih]; rfl
theorem repL_eq (n : Nat) (z : List α) : repL n z = (List.replicate n z).flatten := by
  induction n with
  | zero => rfl
  | succ n ih => show appL z (repL n z) = _; rw [ih, appL_eq, List.replicate_succ]; rfl
theorem allCell_of {l : List Value} (h : allCell l = true) : ∀ v ∈ l, cellOk v = true := by
  induction l with
  | nil => intro v hv; cases hv
  | cons a l ih =>
    obtain ⟨h1, h2⟩ := cond_of (show (bif cellOk a then allCell l else false) = true from h)
    intro v hv
    cases hv with
    | head => exact h1
    | tail _ hv => exact ih h2 v hv
theorem allFlat_of {l : List Value} (h : allFlat l = true) : ∀ v ∈ l, flat v = true := by
  induction l with
  | nil => intro v hv; cases hv
  | cons a l ih =>
    obtain ⟨h1, h2⟩ := cond_of (show (bif flat a then allFlat l else false) = true from h)
    intro v hv
    cases hv with
    | head => exact h1
    | tail _ hv => exact ih h2 v hv
theorem noneK_of {o : Option α} {k : Unit → Bool} (h : noneK o k = true) : o = none ∧ k () = true := by
  cases o <;> first | exact no h | exact ⟨rfl, h⟩
theorem nilL_of {l : List α} (h : nilL l = true) : l = [] := by cases l <;> first | rfl | exact no h
end

/-! Memory. -/
noncomputable def St.blk (s : St) (b : Nat) : Blk := s.heap.get .dead (path b)
theorem blkK_of {s : St} {b : Nat} {k : List Value → TypeId → Kd → Bool} (h : blkK s b k = true) : ∃ c e q, s.blk b = .cells c e q ∧ k c e q = true := by
  unfold blkK at h
  unfold St.blk
  cases hb : T.get Blk.dead (path b) s.heap with
  | dead => rw [hb] at h; exact no h
  | cells c e q => rw [hb] at h; exact ⟨c, e, q, rfl, h⟩
  | map es => rw [hb] at h; exact no h
theorem mapBK_of {s : St} {b : Nat} {k : List (Value × Value) → Bool} (h : mapBK s b k = true) : ∃ es, s.blk b = .map es ∧ k es = true := by
  unfold mapBK at h
  unfold St.blk
  cases hb : T.get Blk.dead (path b) s.heap with
  | dead => rw [hb] at h; exact no h
  | cells c e q => rw [hb] at h; exact no h
  | map es => rw [hb] at h; exact ⟨es, rfl, h⟩
def Kd.own : Kd → Prop
  | .tab => False
  | _ => True
theorem ownK_of {q : Kd} {k : Unit → Bool} (h : ownK q k = true) : q.own ∧ k () = true := by
  cases q <;> first | exact no h | exact ⟨trivial, h⟩
theorem exactK_of {q : Kd} {k : Unit → Bool} (h : exactK q k = true) : q = .exact ∧ k () = true := by
  cases q <;> first | exact no h | exact ⟨rfl, h⟩
/-- s' is s with x as block b. -/
structure St.Put (s : St) (b : Nat) (x : Blk) (s' : St) : Prop where
  next : s'.next = s.next
  blk : ∀ c, s'.blk c = if c = b then x else s.blk c
structure St.New (s : St) (x : Blk) (s' : St) : Prop where
  next : s'.next = s.next + 1
  blk : ∀ c, s'.blk c = if c = s.next then x else s.blk c
theorem putK_of {s : St} {b : Nat} {x : Blk} {k : St → Bool} (h : putK s b x k = true) : ∃ s', s.Put b x s' ∧ k s' = true := by
  obtain ⟨t', h1, h2⟩ := T.set_of (n := b) h
  exact ⟨⟨t', s.next⟩, ⟨rfl, fun c => h2 c⟩, h1⟩
theorem newK_of {s : St} {x : Blk} {k : Nat → St → Bool} (h : newK s x k = true) : ∃ s', s.New x s' ∧ k s.next s' = true := by
  obtain ⟨t', h1, h2⟩ := T.set_of (n := s.next) h
  exact ⟨⟨t', s.next + 1⟩, ⟨rfl, fun c => h2 c⟩, h1⟩
theorem readK_of {s : St} {a : Addr} {n : Nat} {k : List Value → Bool} (h : readK s a n k = true) :
    ∃ b o c e q, a = ⟨b, o, none⟩ ∧ s.blk b = .cells c e q ∧ n ≤ (c.drop o).length ∧ (∀ v ∈ (c.drop o).take n, cellOk v = true) ∧ k ((c.drop o).take n) = true := by
  obtain ⟨b, o, rfl, h⟩ := addrK_of h
  obtain ⟨c, e, q, hb, h⟩ := blkK_of h
  obtain ⟨h1, h⟩ := takeK_of h
  obtain ⟨h2, h⟩ := cond_of h
  rw [dropL_eq] at *
  exact ⟨b, o, c, e, q, rfl, hb, h1, allCell_of h2, h⟩
theorem writeK_of {s : St} {a : Addr} {vs : List Value} {k : St → Bool} (h : writeK s a vs k = true) :
    ∃ b o c e q s', a = ⟨b, o, none⟩ ∧ s.blk b = .cells c e q ∧ q.own ∧ (∀ v ∈ vs, cellOk v = true) ∧ o + vs.length ≤ c.length ∧
      s.Put b (.cells (c.take o ++ vs ++ c.drop (o + vs.length)) e q) s' ∧ k s' = true := by
  obtain ⟨b, o, rfl, h⟩ := addrK_of h
  obtain ⟨c, e, q, hb, h⟩ := blkK_of h
  obtain ⟨h1, h⟩ := ownK_of h
  obtain ⟨h2, h⟩ := cond_of h
  obtain ⟨h3, h⟩ := overAtK_of h
  obtain ⟨s', h4, h⟩ := putK_of h
  exact ⟨b, o, c, e, q, s', rfl, hb, h1, allCell_of h2, h3, h4, h⟩

/-! Types. -/
section
variable {P : Program} {t : TypeId}
theorem underK_of {k : TypeDesc → Bool} (h : underK P t k = true) : ∃ d, P.underlying t = some d ∧ k d = true := optK_of h
theorem infoK_of {k : TypeInfo → Bool} (h : infoK P t k = true) : ∃ i, P.info? t = some i ∧ k i = true := optK_of h
theorem sizeK_of {k : Nat → Bool} (h : sizeK P t k = true) : ∃ i, P.info? t = some i ∧ k i.size = true := infoK_of h
theorem zeroK_of {k : Value → Bool} (h : zeroK P t k = true) : ∃ i z, P.info? t = some i ∧ i.zero = some z ∧ flat z = true ∧ k z = true := by
  obtain ⟨i, h1, h⟩ := infoK_of h
  obtain ⟨z, h2, h⟩ := optK_of h
  obtain ⟨h3, h⟩ := cond_of h
  exact ⟨i, z, h1, h2, h3, h⟩
theorem isAgg_eq (d : TypeDesc) : isAgg d = (match d with | .struct _ | .array .. => true | _ => false) := by cases d <;> rfl
theorem sliceTK_of {d : TypeDesc} {k : TypeId → Bool} (h : sliceTK d k = true) : ∃ e, d = .slice e ∧ k e = true := by
  cases d <;> first | exact no h | exact ⟨_, rfl, h⟩
theorem structTK_of {d : TypeDesc} {k : List Field → Bool} (h : structTK d k = true) : ∃ fs, d = .struct ⟨fs⟩ ∧ k fs = true := by
  cases d <;> first | exact no h | exact ⟨_, rfl, h⟩
theorem mapTK_of {d : TypeDesc} {k : TypeId → TypeId → Bool} (h : mapTK d k = true) : ∃ a b, d = .map a b ∧ k a b = true := by
  cases d <;> first | exact no h | exact ⟨_, _, rfl, h⟩
theorem arrTK_of {d : TypeDesc} {k : Nat → TypeId → Bool} (h : arrTK d k = true) : ∃ a b, d = .array a b ∧ k a b = true := by
  cases d <;> first | exact no h | exact ⟨_, _, rfl, h⟩
theorem isStr_of {d : TypeDesc} (h : isStr d = true) : d = .string := by cases d <;> first | exact no h | rfl
theorem psK_of {d : TypeDesc} {k l : TypeId → Bool} (h : psK d k l = true) : (∃ e, d = .pointer e ∧ k e = true) ∨ (∃ e, d = .slice e ∧ l e = true) := by
  cases d <;> first | exact no h | exact .inl ⟨_, rfl, h⟩ | exact .inr ⟨_, rfl, h⟩
theorem ptrTK_of {d : TypeDesc} {k : TypeId → Bool} (h : ptrTK d k = true) : ∃ e, d = .pointer e ∧ k e = true := by
  rcases psK_of h with h | ⟨_, _, h⟩
  · exact h
  · exact no h
theorem isArr_of {d : TypeDesc} {k : List Field → Bool} {l : TypeId → Bool} (h : isArr d k l = true) :
    (∃ fs, d = .struct ⟨fs⟩ ∧ k fs = true) ∨ (∃ n e, d = .array n e ∧ l e = true) := by
  cases d <;> first | exact no h | exact .inl ⟨_, rfl, h⟩ | exact .inr ⟨_, _, rfl, h⟩
theorem isByte_of {d : TypeDesc} (h : isByte d = true) : d = .int .u8 := by
  cases d with
  | int k => cases k <;> first | rfl | exact no h
  | _ => exact no h
theorem eqKind_of {a b : IntKind} (h : eqKind a b = true) : a = b := of_decide_eq_true h
end

/-! Flat values. -/
noncomputable def flatA (a : Array Value) : Bool :=
  @Value.rec_1 (fun _ => Bool) (fun _ => Bool) (fun _ => Bool)
    (fun _ => true) (fun _ _ => true) (fun _ _ => true) (fun _ _ _ => true) (fun _ => true) (fun a => Option.rec (motive := fun _ => Bool) true (fun _ => false) a) (fun a _ _ => Option.rec (motive := fun _ => Bool) true (fun _ => false) a)
    (fun a => Option.rec (motive := fun _ => Bool) true (fun _ => false) a) (fun a => Option.rec (motive := fun _ => Bool) true (fun _ => false) a)
    (fun _ _ _ x y => bif x then y else false) true (fun _ _ x => x) true (fun _ x => x) (fun _ x => x) (fun _ x => x) true (fun _ _ x y => bif x then y else false) a
noncomputable def flatL (l : List Value) : Bool :=
  @Value.rec_2 (fun _ => Bool) (fun _ => Bool) (fun _ => Bool)
    (fun _ => true) (fun _ _ => true) (fun _ _ => true) (fun _ _ _ => true) (fun _ => true) (fun a => Option.rec (motive := fun _ => Bool) true (fun _ => false) a) (fun a _ _ => Option.rec (motive := fun _ => Bool) true (fun _ => false) a)
    (fun a => Option.rec (motive := fun _ => Bool) true (fun _ => false) a) (fun a => Option.rec (motive := fun _ => Bool) true (fun _ => false) a)
    (fun _ _ _ x y => bif x then y else false) true (fun _ _ x => x) true (fun _ x => x) (fun _ x => x) (fun _ x => x) true (fun _ _ x y => bif x then y else false) l
mutual
theorem flat_refl {σ : Emb} : ∀ (v : Value), flat v = true → VR σ v v
  | .pointer (some a), h => no h
  | .slice (some a) n c, h => no h
  | .map (some b), h => no h
  | .chan (some _), h => no h
  | .func fn f c, h => by
    obtain ⟨h1, h2⟩ := cond_of (show (bif flatA f then flatA c else false) = true from h)
    simp only [VR]
    exact ⟨f, c, rfl, flatA_refl f h1, flatA_refl c h2⟩
  | .iface t v, h => by simp only [VR]; exact ⟨v, rfl, flat_refl v h⟩
  | .agg c, h => by simp only [VR]; exact ⟨c, rfl, flatA_refl c h⟩
  | .tuple c, h => by simp only [VR]; exact ⟨c, rfl, flatA_refl c h⟩
  | .bool b, h => by simp only [VR]
  | .int k n, h => by simp only [VR]
  | .float k n, h => by simp only [VR]
  | .complex k n m, h => by simp only [VR]
  | .string s, h => by simp only [VR]
  | .pointer none, h => by simp only [VR]
  | .slice none n c, h => by simp only [VR]
  | .map none, h => by simp only [VR]
  | .chan none, h => by simp only [VR]
  | .nilFunc, h => by simp only [VR]
  | .nilIface, h => by simp only [VR]
theorem flatA_refl {σ : Emb} : ∀ (a : Array Value), flatA a = true → AR σ a a
  | ⟨l⟩, h => by simp only [AR]; exact flatL_refl l h
theorem flatL_refl {σ : Emb} : ∀ (l : List Value), flatL l = true → LR σ l l
  | [], h => by simp only [LR]
  | v :: t, h => by
    obtain ⟨h1, h2⟩ := cond_of (show (bif flat v then flatL t else false) = true from h)
    simp only [LR]
    exact ⟨v, t, rfl, flat_refl v h1, flatL_refl t h2⟩
end
end Go.Ev
