/- The pen's rules, one for each plain operation: registers, numbers, guards, calls. -/
import Derived.Test.YtjckoflcjkajiaaDoorPen
set_option linter.unusedVariables false
set_option linter.unusedSimpArgs false
namespace Go.Pen

theorem blt_lt {d n : Nat} (h : Nat.blt d n = true) : d < n := Nat.le_of_ble_eq_true h

section
variable {P : Program} {n : Nat} {B : World} {I : List Nat} {Γ : List (Nat × Obj)} {Q : Post} {ρ : Env} {ops : Array Oper} {rest : List Oper}
  {d : Nat} {ty : TypeId} {pos : String} {af : Array Edge} {m : Bool} {K : List (Nat × Obj) → Env → Prop}

/-- One operation: whatever it does, 'K' holds of the memory and the slots behind it. -/
structure OP (P : Program) (n : Nat) (B : World) (I : List Nat) (Γ : List (Nat × Obj)) (m : Bool) (ops : Array Oper) (o : Oper) (K : List (Nat × Obj) → Env → Prop) (ρ : Env) : Prop where
  yes : ∀ a, a.defers = [] → a.tmps.size = n → envOf a = ρ → Region.wanted o (yielded ops a.tmps) = true →
    match m with
    | false => ∀ w, St B I Γ w → ∀ (K' : Act → World → Prop) (Q' : Exit → Act → World → Prop), (∀ a' w' Γ', a'.defers = [] → a'.tmps.size = n → St B I Γ' w' → K Γ' (envOf a') → K' a' w') → o.wp P a w K' Q'
    | true => (∀ (K' : Act → Prop), (∀ a', a'.defers = [] → a'.tmps.size = n → K Γ (envOf a') → K' a') → o.quiet P a (St B I Γ) K') ∧
        (noCall o = true → ∀ w, St B I Γ w → ∀ (K' : Act → Prop), (∀ a', a'.defers = [] → a'.tmps.size = n → K Γ (envOf a') → K' a') → o.still P a w K') ∧
        (noCall o = true → ∃ v, (∀ w, St B I Γ w → (execOp a.eval o).run P w = .ok (.value v) w) ∧ ∀ (K' : Act → Prop), (∀ a', a'.defers = [] → a'.tmps.size = n → K Γ (envOf a') → K' a') → K' (a.put o.dst v))
  no : ∀ a, a.defers = [] → a.tmps.size = n → envOf a = ρ → Region.wanted o (yielded ops a.tmps) = false → K Γ (envOf (a.put o.dst undef))

theorem WL.cons {o : Oper} (h : OP P n B I Γ m ops o (fun Γ' ρ' => WL P n B I Γ' m ops rest Q ρ') ρ) : WL P n B I Γ m ops (o :: rest) Q ρ := by
  refine ⟨fun a h1 h2 h3 => ?_⟩
  cases m with
  | false =>
    intro w h4
    refine wpList_step fun K hK => ?_
    split
    · rename_i hw
      exact h.yes a h1 h2 h3 hw w h4 K _ fun a' w' Γ' k1 k2 k3 k4 => hK _ _ (k4.out a' k1 k2 rfl w' k3)
    · rename_i hw
      have hno := h.no a h1 h2 h3 (by simpa using hw)
      exact hK _ _ (hno.out _ (by rw [put_defers]; exact h1) (by rw [put_size]; exact h2) rfl w h4)
  | true =>
    refine ⟨wpQuiet_step fun K hK => ?_, fun hnc w hw0 => wpStill_step fun K hK => ?_⟩
    · split
      · rename_i hw
        exact (h.yes a h1 h2 h3 hw).1 K fun a' k1 k2 k4 => hK _ (k4.out a' k1 k2 rfl).1
      · rename_i hw
        have hno := h.no a h1 h2 h3 (by simpa using hw)
        exact hK _ (hno.out _ (by rw [put_defers]; exact h1) (by rw [put_size]; exact h2) rfl).1
    · rw [List.all_cons, Bool.and_eq_true] at hnc
      split
      · rename_i hw
        exact (h.yes a h1 h2 h3 hw).2.1 hnc.1 w hw0 K fun a' k1 k2 k4 => hK _ ((k4.out a' k1 k2 rfl).2 hnc.2 w hw0)
      · rename_i hw
        have hno := h.no a h1 h2 h3 (by simpa using hw)
        exact hK _ ((hno.out _ (by rw [put_defers]; exact h1) (by rw [put_size]; exact h2) rfl).2 hnc.2 w hw0)

/-- Whatever order is picked of those that are still open. -/
structure WA (P : Program) (n : Nat) (B : World) (I : List Nat) (Γ : List (Nat × Obj)) (ops : Array Oper) (fuel : Nat) (listed : Array Bool) (Q : Post) (ρ : Env) : Prop where
  out : ∀ a, a.defers = [] → a.tmps.size = n → envOf a = ρ → ∀ w, St B I Γ w → wpAny P .any ops (lift n Q) fuel listed a w
theorem WP.regionA {id : Nat} {l : List Oper} (hm : P.follows .mixedOrders = true) (h : WA P n B I Γ l.toArray l.length (Array.replicate l.length false) Q ρ) : WP P n B I Γ (.region id l.toArray true) Q ρ :=
  ⟨fun a w h1 h2 h3 h4 => wp_region_any hm (by simpa using h.out a h1 h2 h3 _ (h4.drew (w.drawn + 1) (Nat.le_succ _)))⟩
theorem WA.done {fuel : Nat} {listed : Array Bool} (hr : Region.ready .any ops listed = []) (h : Fin B I Γ .normal ρ Q) : WA P n B I Γ ops fuel listed Q ρ :=
  ⟨fun a h1 h2 h3 w h4 => by
    cases fuel with
    | zero => exact ⟨hr, h1, h2, h3 ▸ h.out w h4⟩
    | succ k => exact ⟨fun _ => ⟨h1, h2, h3 ▸ h.out w h4⟩, fun i hi => by rw [hr] at hi; cases hi⟩⟩
/-- Those that may come up, one after the other. -/
theorem WA.step {fuel : Nat} {listed : Array Bool} {rs : List Nat} (hr : Region.ready .any ops listed = rs) (hne : rs.isEmpty = false)
    (h : ∀ i ∈ rs, ∃ o, ops[i]? = some o ∧ OP P n B I Γ false ops o (fun Γ' ρ' => WA P n B I Γ' ops fuel (listed.setIfInBounds i true) Q ρ') ρ) : WA P n B I Γ ops (fuel + 1) listed Q ρ :=
  ⟨fun a h1 h2 h3 w h4 => by
    refine ⟨fun h0 => ?_, fun i hi => ?_⟩
    · rw [hr] at h0; subst h0; cases hne
    · rw [hr] at hi
      obtain ⟨o, ho, hop⟩ := h i hi
      unfold wpOp
      rw [ho]
      dsimp only
      split
      · rename_i hw
        exact .inl (hop.yes a h1 h2 h3 hw w h4 _ _ fun a' w' Γ' k1 k2 k3 k4 => k4.out a' k1 k2 rfl w' k3)
      · rename_i hw
        have hno := hop.no a h1 h2 h3 (by simpa using hw)
        exact hno.out _ (by rw [put_defers]; exact h1) (by rw [put_size]; exact h2) rfl w h4⟩
theorem all_nil {p : Nat → Prop} : ∀ i ∈ ([] : List Nat), p i := fun i hi => by cases hi
theorem all_cons {p : Nat → Prop} {i : Nat} {l : List Nat} (h : p i) (h' : ∀ j ∈ l, p j) : ∀ j ∈ i :: l, p j := fun j hj => by
  rcases List.mem_cons.1 hj with rfl | hj
  · exact h
  · exact h' j hj

/-- One operation without a guard: whatever it yields, and however the world turns. -/
theorem OP.gen {op : Op} (hd : Nat.blt d n = true)
    (h : ∀ w, St B I Γ w → ∃ v Γ' w', (execOp (ev ρ) ⟨some d, op, ty, pos, af, none⟩).run P w = .ok (.value v) w' ∧ St B I Γ' w' ∧ K Γ' (upd ρ d v)) :
    OP P n B I Γ false ops ⟨some d, op, ty, pos, af, none⟩ K ρ where
  yes := fun a h1 h2 h3 _ w h4 K' Q' hK => by
    obtain ⟨v, Γ', w', hrun, hst, hwl⟩ := h w h4
    unfold Oper.wp
    rw [eval_env, h3, hrun]
    have hlt : d < a.tmps.size := by rw [h2]; exact blt_lt hd
    exact hK _ _ Γ' (by rw [put_defers]; exact h1) (by rw [put_size]; exact h2) hst (by show K Γ' (envOf (a.put (some d) v)); rw [env_put a d v hlt, h3]; exact hwl)
  no := fun a _ _ _ hw => by simp [Region.wanted] at hw

theorem OP.pure1 {op : Op} (v : Value) (hd : Nat.blt d n = true)
    (hrun : ∀ w, St B I Γ w → (execOp (ev ρ) ⟨some d, op, ty, pos, af, none⟩).run P w = .ok (.value v) w) (h : K Γ (upd ρ d v)) :
    OP P n B I Γ m ops ⟨some d, op, ty, pos, af, none⟩ K ρ := by
  cases m with
  | false => exact OP.gen hd fun w hw => ⟨v, Γ, w, hrun w hw, hw, h⟩
  | true =>
    refine ⟨fun a h1 h2 h3 _ => ⟨fun K' hK => ⟨v, fun w hw => ?_, ?_⟩, fun _ w hw K' hK => ?_, fun _ => ⟨v, fun w hw => ?_, fun K' hK => ?_⟩⟩, fun a _ _ _ hw => by simp [Region.wanted] at hw⟩
    · unfold Oper.quietAt
      rw [eval_env, h3, hrun w hw]
      exact ⟨rfl, rfl⟩
    · have hlt : d < a.tmps.size := by rw [h2]; exact blt_lt hd
      exact hK _ (by rw [put_defers]; exact h1) (by rw [put_size]; exact h2) (by show K Γ (envOf (a.put (some d) v)); rw [env_put a d v hlt, h3]; exact h)
    · have hlt : d < a.tmps.size := by rw [h2]; exact blt_lt hd
      unfold Oper.still
      rw [eval_env, h3, hrun w hw]
      exact ⟨rfl, hK _ (by rw [put_defers]; exact h1) (by rw [put_size]; exact h2) (by show K Γ (envOf (a.put (some d) v)); rw [env_put a d v hlt, h3]; exact h)⟩
    · rw [eval_env, h3, hrun w hw]
    · have hlt : d < a.tmps.size := by rw [h2]; exact blt_lt hd
      exact hK _ (by rw [put_defers]; exact h1) (by rw [put_size]; exact h2) (by show K Γ (envOf (a.put (some d) v)); rw [env_put a d v hlt, h3]; exact h)

/-- An operation that yields nothing (a store). -/
theorem OP.skip0 {op : Op} {Γ' : List (Nat × Obj)}
    (h : ∀ w, St B I Γ w → ∃ w', (execOp (ev ρ) ⟨none, op, ty, pos, af, none⟩).run P w = .ok .skip w' ∧ St B I Γ' w') (h' : K Γ' ρ) :
    OP P n B I Γ false ops ⟨none, op, ty, pos, af, none⟩ K ρ where
  yes := fun a h1 h2 h3 _ w h4 K' Q' hK => by
    obtain ⟨w', hrun, hst⟩ := h w h4
    unfold Oper.wp
    rw [eval_env, h3, hrun]
    exact hK _ _ Γ' h1 h2 hst (by show K Γ' (envOf a); rw [h3]; exact h')
  no := fun a _ _ _ hw => by simp [Region.wanted] at hw

/-! guards -/
theorem yielded_env {a : Act} {j s : Nat} {b : Bool} (hj : (ops[j]?).bind (·.dst) = some s) (h : envOf a s = .bool b) : yielded ops a.tmps j = some b := by
  unfold yielded
  rw [hj]
  simp only [envOf, Array.getD_eq_getD_getElem?] at h
  cases hs : a.tmps[s]? with
  | none => rw [hs] at h; cases h
  | some v => rw [hs] at h; simp at h; subst h; simp [hs]

theorem OP.guard_yes {j s : Nat} {b : Bool} {op : Op} {dst : Option Nat} (hj : (ops[j]?).bind (·.dst) = some s) (hs : ρ s = .bool b)
    (h : OP P n B I Γ m ops ⟨dst, op, ty, pos, af, none⟩ K ρ) : OP P n B I Γ m ops ⟨dst, op, ty, pos, af, some (j, b)⟩ K ρ where
  yes := fun a h1 h2 h3 _ => h.yes a h1 h2 h3 rfl
  no := fun a h1 h2 h3 hw => by
    have hy := yielded_env (a := a) hj (h3 ▸ hs)
    simp [Region.wanted, hy] at hw
theorem OP.guard_no {j s : Nat} {b c : Bool} {op : Op} (hd : Nat.blt d n = true) (hj : (ops[j]?).bind (·.dst) = some s) (hs : ρ s = .bool c) (hc : (c == b) = false)
    (h : K Γ (upd ρ d undef)) : OP P n B I Γ m ops ⟨some d, op, ty, pos, af, some (j, b)⟩ K ρ where
  yes := fun a h1 h2 h3 hw => by
    have hy := yielded_env (a := a) hj (h3 ▸ hs)
    have w2 : Region.wanted ⟨some d, op, ty, pos, af, some (j, b)⟩ (yielded ops a.tmps) = false := by simpa [Region.wanted, hy] using hc
    rw [w2] at hw; cases hw
  no := fun a h1 h2 h3 _ => by
    have hlt : d < a.tmps.size := by rw [h2]; exact blt_lt hd
    show K Γ (envOf (a.put (some d) undef)); rw [env_put a d _ hlt, h3]; exact h
theorem OP.guard_no0 {j s : Nat} {b c : Bool} {op : Op} (hj : (ops[j]?).bind (·.dst) = some s) (hs : ρ s = .bool c) (hc : (c == b) = false)
    (h : K Γ ρ) : OP P n B I Γ m ops ⟨none, op, ty, pos, af, some (j, b)⟩ K ρ where
  yes := fun a h1 h2 h3 hw => by
    have hy := yielded_env (a := a) hj (h3 ▸ hs)
    have w2 : Region.wanted ⟨none, op, ty, pos, af, some (j, b)⟩ (yielded ops a.tmps) = false := by simpa [Region.wanted, hy] using hc
    rw [w2] at hw; cases hw
  no := fun a h1 h2 h3 _ => by show K Γ (envOf a); rw [h3]; exact h
/-- The test itself was passed over. -/
theorem OP.guard_un {j s : Nat} {b : Bool} {op : Op} (hd : Nat.blt d n = true) (hj : (ops[j]?).bind (·.dst) = some s) (hs : ρ s = undef)
    (h : K Γ (upd ρ d undef)) : OP P n B I Γ m ops ⟨some d, op, ty, pos, af, some (j, b)⟩ K ρ where
  yes := fun a h1 h2 h3 hw => by
    have hy : yielded ops a.tmps j = none := by
      unfold yielded
      rw [hj]
      have hs' : envOf a s = undef := h3 ▸ hs
      simp only [envOf, Array.getD_eq_getD_getElem?] at hs'
      cases hq : a.tmps[s]? with
      | none => simp [hq]
      | some v => rw [hq] at hs'; simp at hs'; subst hs'; simp [hq, undef]
    simp [Region.wanted, hy] at hw
  no := fun a h1 h2 h3 _ => by
    have hlt : d < a.tmps.size := by rw [h2]; exact blt_lt hd
    show K Γ (envOf (a.put (some d) undef)); rw [env_put a d _ hlt, h3]; exact h
/-- A test that is not known yet: both ways. -/
theorem OP.guard_dec {j s : Nat} {b : Bool} {op : Op} {dst : Option Nat} {p : Prop} [Decidable p] (hj : (ops[j]?).bind (·.dst) = some s) (hs : ρ s = .bool (decide p))
    (ht : p → OP P n B I Γ m ops ⟨dst, op, ty, pos, af, some (j, b)⟩ K (upd ρ s (.bool true)))
    (hf : ¬ p → OP P n B I Γ m ops ⟨dst, op, ty, pos, af, some (j, b)⟩ K (upd ρ s (.bool false))) :
    OP P n B I Γ m ops ⟨dst, op, ty, pos, af, some (j, b)⟩ K ρ := by
  have _ := hj
  by_cases hp : p
  · have e : upd ρ s (.bool true) = ρ := by have := upd_self ρ s; rwa [hs, decide_eq_true hp] at this
    exact e ▸ ht hp
  · have e : upd ρ s (.bool false) = ρ := by have := upd_self ρ s; rwa [hs, decide_eq_false hp] at this
    exact e ▸ hf hp
theorem OP.guard_bool {j s : Nat} {b c : Bool} {op : Op} {dst : Option Nat} (hj : (ops[j]?).bind (·.dst) = some s) (hs : ρ s = .bool c)
    (ht : c = true → OP P n B I Γ m ops ⟨dst, op, ty, pos, af, some (j, b)⟩ K (upd ρ s (.bool true)))
    (hf : c = false → OP P n B I Γ m ops ⟨dst, op, ty, pos, af, some (j, b)⟩ K (upd ρ s (.bool false))) :
    OP P n B I Γ m ops ⟨dst, op, ty, pos, af, some (j, b)⟩ K ρ := by
  have _ := hj
  cases c
  · have e : upd ρ s (.bool false) = ρ := by have := upd_self ρ s; rwa [hs] at this
    exact e ▸ hf rfl
  · have e : upd ρ s (.bool true) = ρ := by have := upd_self ρ s; rwa [hs] at this
    exact e ▸ ht rfl

/-! registers -/
theorem OP.move {x : Operand} {v : Value} (hd : Nat.blt d n = true) (hv : ev ρ x = v) (h : K Γ (upd ρ d v)) : OP P n B I Γ m ops ⟨some d, .move x, ty, pos, af, none⟩ K ρ :=
  OP.pure1 _ hd (fun _ _ => by subst hv; rfl) h
theorem OP.assign {x : Operand} {v : Value} (hd : Nat.blt d n = true) (hv : ev ρ x = v) (h : K Γ (upd ρ d v)) : OP P n B I Γ m ops ⟨some d, .assign x, ty, pos, af, none⟩ K ρ :=
  OP.pure1 _ hd (fun _ _ => by subst hv; rfl) h
theorem OP.pick_true {c x y : Operand} (hd : Nat.blt d n = true) (hc : ev ρ c = .bool true) (h : K Γ (upd ρ d (ev ρ x))) :
    OP P n B I Γ m ops ⟨some d, .pick c x y, ty, pos, af, none⟩ K ρ :=
  OP.pure1 _ hd (fun w _ => by simp only [execOp, hc]; rfl) h
theorem OP.pick_false {c x y : Operand} (hd : Nat.blt d n = true) (hc : ev ρ c = .bool false) (h : K Γ (upd ρ d (ev ρ y))) :
    OP P n B I Γ m ops ⟨some d, .pick c x y, ty, pos, af, none⟩ K ρ :=
  OP.pure1 _ hd (fun w _ => by simp only [execOp, hc]; rfl) h
theorem OP.extract {x : Operand} {i : Nat} {vs : Array Value} {v : Value} (hd : Nat.blt d n = true) (hx : ev ρ x = .tuple vs) (hv : vs[i]? = some v) (h : K Γ (upd ρ d v)) :
    OP P n B I Γ m ops ⟨some d, .extract x i, ty, pos, af, none⟩ K ρ :=
  OP.pure1 v hd (fun w _ => by simp only [execOp, hx, Instr.extract, hv]; rfl) h
theorem map_list {α β : Type} (f : α → β) (a : Array α) : a.map f = (a.toList.map f).toArray := by apply Array.ext'; simp
theorem OP.makeFunc {f : Go.Fn} {first captured : Array Operand} (hd : Nat.blt d n = true) (h : K Γ (upd ρ d (.func f (first.toList.map (ev ρ)).toArray (captured.toList.map (ev ρ)).toArray))) :
    OP P n B I Γ m ops ⟨some d, .makeFunc f first captured, ty, pos, af, none⟩ K ρ :=
  OP.pure1 _ hd (fun w _ => by rw [← map_list, ← map_list]; rfl) h

/-! numbers -/
theorem eqGuard_int (op : BinOp) (t : TypeId) (x y : Operand) (k k' : IntKind) (a b : Int) (w : World) : (eqGuard op t x y (.int k a) (.int k' b)).run P w = .ok () w := by
  cases op <;> rfl

theorem wrap_id {k : IntKind} {z : Int} (h1 : k.min ≤ z) (h2 : z ≤ k.max) : k.wrap z = z := by
  cases k <;> simp [IntKind.min, IntKind.max, IntKind.signed, IntKind.bits] at h1 h2 <;> simp [IntKind.wrap, IntKind.signed, IntKind.bits] <;> (try split) <;> omega

/-- The kinds, each with its bounds written out. -/
class Fits (k : IntKind) (lo hi : outParam Int) : Prop where
  mem : ∀ z, lo ≤ z → z ≤ hi → k.wrap z = z
instance : Fits .i64 (-9223372036854775808) 9223372036854775807 := ⟨fun _ h1 h2 => wrap_id h1 h2⟩
instance : Fits .u64 0 18446744073709551615 := ⟨fun _ h1 h2 => wrap_id h1 h2⟩
instance : Fits .i32 (-2147483648) 2147483647 := ⟨fun _ h1 h2 => wrap_id h1 h2⟩
instance : Fits .u32 0 4294967295 := ⟨fun _ h1 h2 => wrap_id h1 h2⟩
instance : Fits .i16 (-32768) 32767 := ⟨fun _ h1 h2 => wrap_id h1 h2⟩
instance : Fits .u16 0 65535 := ⟨fun _ h1 h2 => wrap_id h1 h2⟩
instance : Fits .i8 (-128) 127 := ⟨fun _ h1 h2 => wrap_id h1 h2⟩
instance : Fits .u8 0 255 := ⟨fun _ h1 h2 => wrap_id h1 h2⟩

variable {t t' : TypeId} {x y : Operand} {k : IntKind} {lo hi : Int} {a b : Int}

theorem bin_add (w : World) : (binOp .add t (.int k a) (.int k b)).run P w = .ok (.int k (k.wrap (a + b))) w := by simp only [binOp, ne_eq, not_true, if_false]; rfl
theorem bin_sub (w : World) : (binOp .sub t (.int k a) (.int k b)).run P w = .ok (.int k (k.wrap (a - b))) w := by simp only [binOp, ne_eq, not_true, if_false]; rfl
theorem bin_mul (w : World) : (binOp .mul t (.int k a) (.int k b)).run P w = .ok (.int k (k.wrap (a * b))) w := by simp only [binOp, ne_eq, not_true, if_false]; rfl
theorem bin_quo (w : World) (h : b ≠ 0) : (binOp .quo t (.int k a) (.int k b)).run P w = .ok (.int k (k.wrap (a.tdiv b))) w := by
  simp only [binOp, ne_eq, not_true, if_false, Op.intDiv]; rw [if_neg h]; rfl
theorem bin_rem (w : World) (h : b ≠ 0) : (binOp .rem t (.int k a) (.int k b)).run P w = .ok (.int k (a.tmod b)) w := by
  simp only [binOp, ne_eq, not_true, if_false, Op.intDiv]; rw [if_neg h]; rfl

theorem binop {op : BinOp} {v : Value} (hd : Nat.blt d n = true) (hx : ev ρ x = .int k a) (hy : ev ρ y = .int k b)
    (hb : ∀ w, (binOp op t (.int k a) (.int k b)).run P w = .ok v w) (h : K Γ (upd ρ d v)) :
    OP P n B I Γ m ops ⟨some d, .binOp op t x y t', ty, pos, af, none⟩ K ρ :=
  OP.pure1 v hd (fun w _ => by
    have h1 := eqGuard_int (P := P) op t x y k k a b w
    have h2 := hb w
    simp only [execOp, hx, hy, Sem.run_bind, h1, h2, Result.andThen_ok, Sem.run_pure]) h

theorem OP.add [Fits k lo hi] (hd : Nat.blt d n = true) (hx : ev ρ x = .int k a) (hy : ev ρ y = .int k b) (h1 : lo ≤ a + b) (h2 : a + b ≤ hi)
    (h : K Γ (upd ρ d (.int k (a + b)))) : OP P n B I Γ m ops ⟨some d, .binOp .add t x y t', ty, pos, af, none⟩ K ρ :=
  binop hd hx hy (fun w => by rw [bin_add, Fits.mem _ h1 h2]) h
theorem OP.addw (hd : Nat.blt d n = true) (hx : ev ρ x = .int k a) (hy : ev ρ y = .int k b)
    (h : K Γ (upd ρ d (.int k (k.wrap (a + b))))) : OP P n B I Γ m ops ⟨some d, .binOp .add t x y t', ty, pos, af, none⟩ K ρ :=
  binop hd hx hy bin_add h
theorem OP.sub [Fits k lo hi] (hd : Nat.blt d n = true) (hx : ev ρ x = .int k a) (hy : ev ρ y = .int k b) (h1 : lo ≤ a - b) (h2 : a - b ≤ hi)
    (h : K Γ (upd ρ d (.int k (a - b)))) : OP P n B I Γ m ops ⟨some d, .binOp .sub t x y t', ty, pos, af, none⟩ K ρ :=
  binop hd hx hy (fun w => by rw [bin_sub, Fits.mem _ h1 h2]) h
theorem OP.subw (hd : Nat.blt d n = true) (hx : ev ρ x = .int k a) (hy : ev ρ y = .int k b)
    (h : K Γ (upd ρ d (.int k (k.wrap (a - b))))) : OP P n B I Γ m ops ⟨some d, .binOp .sub t x y t', ty, pos, af, none⟩ K ρ :=
  binop hd hx hy bin_sub h
theorem OP.mul [Fits k lo hi] (hd : Nat.blt d n = true) (hx : ev ρ x = .int k a) (hy : ev ρ y = .int k b) (h1 : lo ≤ a * b) (h2 : a * b ≤ hi)
    (h : K Γ (upd ρ d (.int k (a * b)))) : OP P n B I Γ m ops ⟨some d, .binOp .mul t x y t', ty, pos, af, none⟩ K ρ :=
  binop hd hx hy (fun w => by rw [bin_mul, Fits.mem _ h1 h2]) h
theorem OP.mulw (hd : Nat.blt d n = true) (hx : ev ρ x = .int k a) (hy : ev ρ y = .int k b)
    (h : K Γ (upd ρ d (.int k (k.wrap (a * b))))) : OP P n B I Γ m ops ⟨some d, .binOp .mul t x y t', ty, pos, af, none⟩ K ρ :=
  binop hd hx hy bin_mul h
/-- '/' and '%' of natural numbers, behind names (so that 'omega' takes them for numbers from 0 on). -/
def qn (a b : Nat) : Nat := a / b
def rn (a b : Nat) : Nat := a % b
theorem rn_lt {a b : Nat} (h : 0 < b) : rn a b < b := Nat.mod_lt _ h
theorem OP.quoN {a b : Nat} [Fits k lo hi] (hd : Nat.blt d n = true) (hx : ev ρ x = .int k (a : Int)) (hy : ev ρ y = .int k (b : Int)) (hb : 0 < b) (hl : lo ≤ 0) (h2 : (a : Int) ≤ hi)
    (h : K Γ (upd ρ d (.int k ((qn a b : Nat) : Int)))) : OP P n B I Γ m ops ⟨some d, .binOp .quo t x y t', ty, pos, af, none⟩ K ρ :=
  binop hd hx hy (fun w => by
    have l2 : qn a b ≤ a := Nat.div_le_self a b
    rw [bin_quo w (by omega), Int.tdiv_eq_ediv_of_nonneg (by omega), ← Int.natCast_ediv]
    show Result.ok (Value.int k (k.wrap ((qn a b : Nat) : Int))) w = _
    rw [Fits.mem _ (by omega) (by omega)]) h
theorem OP.remN {a b : Nat} (hd : Nat.blt d n = true) (hx : ev ρ x = .int k (a : Int)) (hy : ev ρ y = .int k (b : Int)) (hb : 0 < b)
    (h : K Γ (upd ρ d (.int k ((rn a b : Nat) : Int)))) : OP P n B I Γ m ops ⟨some d, .binOp .rem t x y t', ty, pos, af, none⟩ K ρ :=
  binop hd hx hy (fun w => by rw [bin_rem w (by omega), Int.tmod_eq_emod_of_nonneg (by omega), ← Int.natCast_emod]; rfl) h
/-- '/' where both are from 0 on. -/
theorem OP.quo [Fits k lo hi] (hd : Nat.blt d n = true) (hx : ev ρ x = .int k a) (hy : ev ρ y = .int k b) (h0 : 0 ≤ a) (hb : 0 < b) (hl : lo ≤ 0) (h2 : a ≤ hi)
    (h : K Γ (upd ρ d (.int k (a / b)))) : OP P n B I Γ m ops ⟨some d, .binOp .quo t x y t', ty, pos, af, none⟩ K ρ :=
  binop hd hx hy (fun w => by
    have e : a.tdiv b = a / b := Int.tdiv_eq_ediv_of_nonneg h0
    have l1 : 0 ≤ a / b := Int.ediv_nonneg h0 (Int.le_of_lt hb)
    have l2 : a / b ≤ a := Int.ediv_le_self _ h0
    rw [bin_quo w (by omega), e, Fits.mem _ (Int.le_trans hl l1) (Int.le_trans l2 h2)]) h
theorem OP.rem (hd : Nat.blt d n = true) (hx : ev ρ x = .int k a) (hy : ev ρ y = .int k b) (h0 : 0 ≤ a) (hb : 0 < b)
    (h : K Γ (upd ρ d (.int k (a % b)))) : OP P n B I Γ m ops ⟨some d, .binOp .rem t x y t', ty, pos, af, none⟩ K ρ :=
  binop hd hx hy (fun w => by rw [bin_rem w (by omega), Int.tmod_eq_emod_of_nonneg h0]) h
theorem OP.quot (hd : Nat.blt d n = true) (hx : ev ρ x = .int k a) (hy : ev ρ y = .int k b) (hb : b ≠ 0)
    (h : K Γ (upd ρ d (.int k (k.wrap (a.tdiv b))))) : OP P n B I Γ m ops ⟨some d, .binOp .quo t x y t', ty, pos, af, none⟩ K ρ :=
  binop hd hx hy (fun w => bin_quo w hb) h
theorem OP.remt (hd : Nat.blt d n = true) (hx : ev ρ x = .int k a) (hy : ev ρ y = .int k b) (hb : b ≠ 0)
    (h : K Γ (upd ρ d (.int k (a.tmod b)))) : OP P n B I Γ m ops ⟨some d, .binOp .rem t x y t', ty, pos, af, none⟩ K ρ :=
  binop hd hx hy (fun w => bin_rem w hb) h

theorem OP.lss (hd : Nat.blt d n = true) (hx : ev ρ x = .int k a) (hy : ev ρ y = .int k b) (h : K Γ (upd ρ d (.bool (decide (a < b))))) :
    OP P n B I Γ m ops ⟨some d, .binOp .lss t x y t', ty, pos, af, none⟩ K ρ :=
  binop hd hx hy (fun w => by simp only [binOp, ne_eq, not_true, if_false]; rfl) h
theorem OP.leq (hd : Nat.blt d n = true) (hx : ev ρ x = .int k a) (hy : ev ρ y = .int k b) (h : K Γ (upd ρ d (.bool (decide (a ≤ b))))) :
    OP P n B I Γ m ops ⟨some d, .binOp .leq t x y t', ty, pos, af, none⟩ K ρ :=
  binop hd hx hy (fun w => by simp only [binOp, ne_eq, not_true, if_false]; rfl) h
theorem OP.gtr (hd : Nat.blt d n = true) (hx : ev ρ x = .int k a) (hy : ev ρ y = .int k b) (h : K Γ (upd ρ d (.bool (decide (b < a))))) :
    OP P n B I Γ m ops ⟨some d, .binOp .gtr t x y t', ty, pos, af, none⟩ K ρ :=
  binop hd hx hy (fun w => by simp only [binOp, ne_eq, not_true, if_false]; rfl) h
theorem OP.geq (hd : Nat.blt d n = true) (hx : ev ρ x = .int k a) (hy : ev ρ y = .int k b) (h : K Γ (upd ρ d (.bool (decide (b ≤ a))))) :
    OP P n B I Γ m ops ⟨some d, .binOp .geq t x y t', ty, pos, af, none⟩ K ρ :=
  binop hd hx hy (fun w => by simp only [binOp, ne_eq, not_true, if_false]; rfl) h
theorem OP.eql (hd : Nat.blt d n = true) (hx : ev ρ x = .int k a) (hy : ev ρ y = .int k b) (h : K Γ (upd ρ d (.bool (decide (a = b))))) :
    OP P n B I Γ m ops ⟨some d, .binOp .eql t x y t', ty, pos, af, none⟩ K ρ :=
  binop hd hx hy (fun w => by simp only [binOp, ne_eq, not_true, if_false]; rfl) h
theorem OP.neq (hd : Nat.blt d n = true) (hx : ev ρ x = .int k a) (hy : ev ρ y = .int k b) (h : K Γ (upd ρ d (.bool (decide (a ≠ b))))) :
    OP P n B I Γ m ops ⟨some d, .binOp .neq t x y t', ty, pos, af, none⟩ K ρ :=
  binop hd hx hy (fun w => by
    have e : decide (a ≠ b) = (a != b) := by
      by_cases hab : a = b
      · simp [hab]
      · simp [hab]
    rw [e]; simp only [binOp, ne_eq, not_true, if_false]; rfl) h

theorem OP.not {c : Bool} (hd : Nat.blt d n = true) (hx : ev ρ x = .bool c) (h : K Γ (upd ρ d (.bool (!c)))) :
    OP P n B I Γ m ops ⟨some d, .unOp .not t x, ty, pos, af, none⟩ K ρ :=
  OP.pure1 _ hd (fun w _ => by simp only [execOp, hx]; rfl) h
theorem OP.notd {p : Prop} [Decidable p] (hd : Nat.blt d n = true) (hx : ev ρ x = .bool (decide p)) (h : K Γ (upd ρ d (.bool (decide (¬ p))))) :
    OP P n B I Γ m ops ⟨some d, .unOp .not t x, ty, pos, af, none⟩ K ρ :=
  OP.not hd hx (by rw [decide_not] at h; exact h)
theorem OP.neg [Fits k lo hi] (hd : Nat.blt d n = true) (hx : ev ρ x = .int k a) (h1 : lo ≤ -a) (h2 : -a ≤ hi) (h : K Γ (upd ρ d (.int k (-a)))) :
    OP P n B I Γ m ops ⟨some d, .unOp .neg t x, ty, pos, af, none⟩ K ρ :=
  OP.pure1 _ hd (fun w _ => by
    simp only [execOp, hx, Op.unary, Op.intArith, Int.zero_sub, Fits.mem _ h1 h2]; rfl) h
theorem OP.negw (hd : Nat.blt d n = true) (hx : ev ρ x = .int k a) (h : K Γ (upd ρ d (.int k (k.wrap (-a))))) :
    OP P n B I Γ m ops ⟨some d, .unOp .neg t x, ty, pos, af, none⟩ K ρ :=
  OP.pure1 _ hd (fun w _ => by
    simp only [execOp, hx, Op.unary, Op.intArith, Int.zero_sub]; rfl) h

/-! conversions of whole numbers -/
class TInt (P : Program) (t : TypeId) (k : outParam IntKind) : Prop where
  out : P.underlying t = some (.int k)
theorem run_conv {s t : TypeId} {k k' : IntKind} [hs : TInt P s k'] [ht : TInt P t k] (w : World) : (convert s t (.int k' a)).run P w = .ok (.int k (k.wrap a)) w := by
  simp [convert, run_underlying hs.out, run_underlying ht.out, Conv.intToInt]
theorem OP.conv {s : TypeId} {k' : IntKind} [TInt P s k'] [TInt P t k] [Fits k lo hi] (hd : Nat.blt d n = true) (hx : ev ρ x = .int k' a) (h1 : lo ≤ a) (h2 : a ≤ hi)
    (h : K Γ (upd ρ d (.int k a))) : OP P n B I Γ m ops ⟨some d, .convert s t x, ty, pos, af, none⟩ K ρ :=
  OP.pure1 _ hd (fun w _ => by
    have := run_conv (P := P) (s := s) (t := t) (k := k) (k' := k') (a := a) w
    rw [Fits.mem _ h1 h2] at this
    simp only [execOp, hx, Sem.run_bind, this, Result.andThen_ok, Sem.run_pure]) h
theorem OP.convw {s : TypeId} {k' : IntKind} [TInt P s k'] [TInt P t k] (hd : Nat.blt d n = true) (hx : ev ρ x = .int k' a)
    (h : K Γ (upd ρ d (.int k (k.wrap a)))) : OP P n B I Γ m ops ⟨some d, .convert s t x, ty, pos, af, none⟩ K ρ :=
  OP.pure1 _ hd (fun w _ => by
    have := run_conv (P := P) (s := s) (t := t) (k := k) (k' := k') (a := a) w
    simp only [execOp, hx, Sem.run_bind, this, Result.andThen_ok, Sem.run_pure]) h

/-! calls -/
/-- The function has a body (a call enters it). -/
class Body (P : Program) (f : FuncId) : Prop where
  out : ∀ args (w : World), (callFunc f args).run P w = .ok (.enter f args) w
theorem Body.mk' {f : FuncId} {fn : Func} {c : Code} (h1 : P.funcs[f]? = some fn) (h2 : (fn.name == "runtime.NumGoroutine") = false) (h3 : fn.body = some c) : Body P f :=
  ⟨fun args w => by simp only [callFunc, Sem.run_bind, run_program, Result.andThen_ok, h1, h2, h3, Option.isNone_some, Bool.false_eq_true, if_false, Sem.run_pure]⟩

theorem call_vals {ρ : Env} {first captured : Array Value} {args : Array Operand} {vals : Array Value} (hv : (first.toList ++ args.toList.map (ev ρ) ++ captured.toList).toArray = vals) : (first ++ args.map (ev ρ)) ++ captured = vals := by
  rw [← hv]; apply Array.ext'; simp
theorem OP.callv {f : FuncId} [hB : Body P f] {c : Operand} {args : Array Operand} {vals first captured : Array Value} {tys : Array TypeId} {R : Value → List (Nat × Obj) → Prop}
    (hd : Nat.blt d n = true) (hc : ev ρ c = .func (.func f) first captured) (hv : (first.toList ++ args.toList.map (ev ρ) ++ captured.toList).toArray = vals)
    (hf : ∀ w, St B I Γ w → Does P f vals [] w R) (h : ∀ v Γ', R v Γ' → K (Γ' ++ Γ) (upd ρ d v)) :
    OP P n B I Γ false ops ⟨some d, .call ⟨.value c, args, tys⟩, ty, pos, af, none⟩ K ρ := by
  refine ⟨fun a h1 h2 h3 _ w h4 K' Q' hK => ?_, fun a _ _ _ hw => by simp [Region.wanted] at hw⟩
  unfold Oper.wp
  have hrun : (execOp (ev ρ) ⟨some d, .call ⟨.value c, args, tys⟩, ty, pos, af, none⟩).run P w = .ok (.enter f vals) w := by
    have := hB.out vals w
    simp only [execOp, resolve, hc, Deferred.ofValue, Sem.run_bind, Sem.run_pure, Result.andThen_ok, invoke, call_vals hv, this]
  rw [eval_env, h3, hrun]
  show Calls P f vals w _
  refine Calls.mono (hf w h4).out ?_
  rintro e w' ⟨v, Γ', rfl, hR, hst⟩
  have hlt : d < a.tmps.size := by rw [h2]; exact blt_lt hd
  exact hK _ _ _ (by rw [put_defers]; exact h1) (by rw [put_size]; exact h2) (h4.over hst) (by show K _ (envOf (a.put (some d) v)); rw [env_put a d v hlt, h3]; exact h v Γ' hR)

/-- A call whose value is known and whatever it makes is let go. -/
theorem OP.callq {f : FuncId} [hB : Body P f] {args : Array Operand} {tys : Array TypeId} {R : Value → List (Nat × Obj) → Prop} (v : Value)
    (hd : Nat.blt d n = true) (hf : ∀ w, St B I Γ w → Does P f (args.toList.map (ev ρ)).toArray [] w R) (hR : ∀ u Γ', R u Γ' → u = v) (h : K Γ (upd ρ d v)) :
    OP P n B I Γ m ops ⟨some d, .call ⟨.value (.func f), args, tys⟩, ty, pos, af, none⟩ K ρ := by
  have hrun : ∀ w, (execOp (ev ρ) ⟨some d, .call ⟨.value (.func f), args, tys⟩, ty, pos, af, none⟩).run P w = .ok (.enter f (args.toList.map (ev ρ)).toArray) w := fun w => by
    have := hB.out (args.toList.map (ev ρ)).toArray w
    have hv : (#[] ++ args.map (ev ρ)) ++ #[] = (args.toList.map (ev ρ)).toArray := call_vals (first := #[]) (captured := #[]) (by simp)
    simp only [execOp, resolve, ev, Deferred.ofValue, Sem.run_bind, Sem.run_pure, Result.andThen_ok, invoke, hv, this]
  cases m with
  | true =>
    refine ⟨fun a h1 h2 h3 _ => ⟨fun K' hK => ⟨v, fun w hw => ?_, ?_⟩, fun hnc => by simp [noCall] at hnc, fun hnc => by simp [noCall] at hnc⟩, fun a _ _ _ hw => by simp [Region.wanted] at hw⟩
    · unfold Oper.quietAt
      rw [eval_env, h3, hrun]
      refine ⟨rfl, Calls.mono (hf w hw).out ?_⟩
      rintro e w' ⟨u, Γ', rfl, hu, hst⟩
      exact ⟨by rw [hR u Γ' hu], (hw.over hst).drop (List.sublist_append_right _ _)⟩
    · have hlt : d < a.tmps.size := by rw [h2]; exact blt_lt hd
      exact hK _ (by rw [put_defers]; exact h1) (by rw [put_size]; exact h2) (by show K Γ (envOf (a.put (some d) v)); rw [env_put a d v hlt, h3]; exact h)
  | false =>
    refine ⟨fun a h1 h2 h3 _ w h4 K' Q' hK => ?_, fun a _ _ _ hw => by simp [Region.wanted] at hw⟩
    unfold Oper.wp
    rw [eval_env, h3, hrun]
    show Calls P f _ w _
    refine Calls.mono (hf w h4).out ?_
    rintro e w' ⟨u, Γ', rfl, hu, hst⟩
    have hlt : d < a.tmps.size := by rw [h2]; exact blt_lt hd
    have := hR u Γ' hu
    subst this
    exact hK _ _ Γ (by rw [put_defers]; exact h1) (by rw [put_size]; exact h2) ((h4.over hst).drop (List.sublist_append_right _ _)) (by show K Γ (envOf (a.put (some d) _)); rw [env_put a d _ hlt, h3]; exact h)

theorem OP.call {f : FuncId} [hB : Body P f] {args : Array Operand} {tys : Array TypeId} {R : Value → List (Nat × Obj) → Prop}
    (hd : Nat.blt d n = true) (hf : ∀ w, St B I Γ w → Does P f (args.toList.map (ev ρ)).toArray [] w R) (h : ∀ v Γ', R v Γ' → K (Γ' ++ Γ) (upd ρ d v)) :
    OP P n B I Γ false ops ⟨some d, .call ⟨.value (.func f), args, tys⟩, ty, pos, af, none⟩ K ρ :=
  OP.callv (f := f) hd (first := #[]) (captured := #[]) rfl (by simp) hf h

/-- A call that borrows 'Γb'. -/
theorem OP.callI {f : FuncId} [hB : Body P f] {c : Operand} {args : Array Operand} {vals first captured : Array Value} {tys : Array TypeId} {R : Value → List (Nat × Obj) → Prop}
    {Γb Γr : List (Nat × Obj)} {dst : Option Nat} (hd : (dst.all fun d => Nat.blt d n) = true) (hc : ev ρ c = .func (.func f) first captured) (hv : (first.toList ++ args.toList.map (ev ρ) ++ captured.toList).toArray = vals)
    (hp : Γ.Perm (Γb ++ Γr)) (hf : ∀ w, (∀ p ∈ Γb, w.heap[p.1]? = some p.2) → (keys Γb).Nodup → St B I (Γb ++ Γr) w → Does P f vals (keys Γb) w R)
    (h : ∀ v Γ', R v Γ' → K (Γ' ++ Γr) (match dst with | some d => upd ρ d v | none => ρ)) :
    OP P n B I Γ false ops ⟨dst, .call ⟨.value c, args, tys⟩, ty, pos, af, none⟩ K ρ := by
  refine ⟨fun a h1 h2 h3 _ w h4 K' Q' hK => ?_, fun a _ _ _ hw => by simp [Region.wanted] at hw⟩
  unfold Oper.wp
  have hrun : (execOp (ev ρ) ⟨dst, .call ⟨.value c, args, tys⟩, ty, pos, af, none⟩).run P w = .ok (.enter f vals) w := by
    have := hB.out vals w
    simp only [execOp, resolve, hc, Deferred.ofValue, Sem.run_bind, Sem.run_pure, Result.andThen_ok, invoke, call_vals hv, this]
  rw [eval_env, h3, hrun]
  show Calls P f vals w _
  have h4' := h4.perm hp
  have hnd : (keys Γb).Nodup := by
    have := h4'.nodup
    rw [List.map_append, List.nodup_append] at this
    exact this.1
  refine Calls.mono (hf w (fun p hp => h4'.has p (List.mem_append_left _ hp)) hnd h4').out ?_
  rintro e w' ⟨v, Γ', rfl, hR, hst⟩
  refine hK _ _ _ (by rw [put_defers]; exact h1) (by rw [put_size]; exact h2) (h4'.overI hst) ?_
  have hres := h v Γ' hR
  cases dst with
  | none => show K _ (envOf a); rw [h3]; exact hres
  | some d =>
    have hlt : d < a.tmps.size := by rw [h2]; exact blt_lt hd
    show K _ (envOf (a.put (some d) v))
    rw [env_put a d v hlt, h3]; exact hres
end
end Go.Pen
