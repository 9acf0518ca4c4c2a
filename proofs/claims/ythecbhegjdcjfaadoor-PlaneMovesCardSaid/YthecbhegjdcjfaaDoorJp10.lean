/- Texts joined: PenI. -/
import Derived.Test.YthecbhegjdcjfaaDoorJp9
import Derived.Laws.BitsAllLaws
import Derived.Laws.Externs
section
/- The pen's rules, more: looks at nil; floats made whole numbers and back; bits; a list of whole numbers in memory, written. -/
set_option linter.unusedVariables false
set_option linter.unusedSimpArgs false
namespace Go.Pen

section
variable {P : Program} {n : Nat} {B : World} {I : List Nat} {Γ Γ1 Γ2 : List (Nat × Obj)} {ρ : Env} {ops : Array Oper} {md : Bool} {K : List (Nat × Obj) → Env → Prop}
  {d : Nat} {ty : TypeId} {pos : String} {af : Array Edge} {t t' e : TypeId} {x y : Operand} {b i : Nat} {v : Value} {k : IntKind}

theorem OP.nilCheck {a : Addr} (hd : Nat.blt d n = true) (ha : ev ρ x = .pointer (some a)) (h : K Γ (upd ρ d (.pointer (some a)))) :
    OP P n B I Γ md ops ⟨some d, .nilCheck x, ty, pos, af, none⟩ K ρ :=
  OP.pure1 _ hd (fun w _ => by simp only [execOp, ha]; rfl) h
theorem OP.convFI {s : TypeId} {a : Nat} {z : Int} [TInt P t k] (hs : (P.underlying s).isSome = true) (hd : Nat.blt d n = true) (hx : ev ρ x = .float .f64 a) (hz : floatToIntVal .f64 a k = some z) (h : K Γ (upd ρ d (.int k z))) :
    OP P n B I Γ md ops ⟨some d, .convert s t x, ty, pos, af, none⟩ K ρ :=
  OP.pure1 _ hd (fun w _ => by
    have := run_convert_float_int (P := P) w s t .f64 k a z hs (TInt.out) hz
    simp only [execOp, hx, Sem.run_bind, this, Result.andThen_ok, Sem.run_pure]) h
theorem run_bits (op : BinOp) (hop : op = .and ∨ op = .or ∨ op = .xor ∨ op = .andNot) (a c : Int) (w : World) : (binOp op t (.int k a) (.int k c)).run P w = .ok (.int k (bits op k a c)) w := by
  rcases hop with rfl | rfl | rfl | rfl <;> simp only [binOp, ne_eq, not_true, if_false] <;> rfl
theorem OP.bitop {op : BinOp} {a c r : Int} (hop : op = .and ∨ op = .or ∨ op = .xor ∨ op = .andNot) (hd : Nat.blt d n = true) (hx : ev ρ x = .int k a) (hy : ev ρ y = .int k c) (hr : bits op k a c = r) (h : K Γ (upd ρ d (.int k r))) :
    OP P n B I Γ md ops ⟨some d, .binOp op t x y t', ty, pos, af, none⟩ K ρ :=
  binop hd hx hy (fun w => by rw [run_bits op hop, hr]) h

/-- Comparisons of floats whose order is known. -/
theorem OP.fcmpK {op : BinOp} {a c : Nat} {r : Bool} (o : Option Ordering) (hd : Nat.blt d n = true) (hx : ev ρ x = .float .f64 a) (hy : ev ρ y = .float .f64 c) (ho : Ieee.double.order a c = o)
    (hr : (match op with | .lss => some (o == some .lt) | .gtr => some (o == some .gt) | .eql => some (o == some .eq) | .neq => some (o != some .eq) | .leq => some (o == some .lt || o == some .eq) | .geq => some (o == some .gt || o == some .eq) | _ => none) = some r) (h : K Γ (upd ρ d (.bool r))) :
    OP P n B I Γ md ops ⟨some d, .binOp op t x y t', ty, pos, af, none⟩ K ρ :=
  OP.pure1 _ hd (fun w _ => by
    have h1 := eqGuard_float (P := P) op t x y a c w
    simp only [execOp, hx, hy, Sem.run_bind, h1, Result.andThen_ok]
    subst ho
    cases op <;> simp only [Option.some.injEq, reduceCtorEq] at hr <;> subst hr <;> rfl) h
/-- A call of a function's value, whose answer is known and whatever it makes is let go. -/
theorem OP.callvq {f : FuncId} [hB : Body P f] {c : Operand} {args : Array Operand} {vals first captured : Array Value} {tys : Array TypeId} {R : Value → List (Nat × Obj) → Prop} (v : Value)
    (hd : Nat.blt d n = true) (hc : ev ρ c = .func (.func f) first captured) (hv : (first.toList ++ args.toList.map (ev ρ) ++ captured.toList).toArray = vals)
    (hf : ∀ w, St B I Γ w → Does P f vals [] w R) (hR : ∀ u Γ', R u Γ' → u = v) (h : K Γ (upd ρ d v)) :
    OP P n B I Γ md ops ⟨some d, .call ⟨.value c, args, tys⟩, ty, pos, af, none⟩ K ρ := by
  have hrun : ∀ w, (execOp (ev ρ) ⟨some d, .call ⟨.value c, args, tys⟩, ty, pos, af, none⟩).run P w = .ok (.enter f vals) w := fun w => by
    have := hB.out vals w
    simp only [execOp, resolve, hc, Deferred.ofValue, Sem.run_bind, Sem.run_pure, Result.andThen_ok, invoke, call_vals hv, this]
  cases md with
  | true =>
    refine ⟨fun a h1 h2 h3 _ => ⟨fun K' hK => ⟨v, fun w hw => ?_, ?_⟩, fun hnc => by simp [noCall] at hnc, fun hnc => by simp [noCall] at hnc⟩, fun a _ _ _ hw => by simp [Region.wanted] at hw⟩
    · unfold Oper.quietAt
      rw [eval_env, h3, hrun]
      refine ⟨rfl, Calls.mono (hf w hw).out ?_⟩
      rintro e w' ⟨u, Γ', rfl, hu, hst⟩
      exact ⟨by rw [hR u Γ' hu], (hw.over hst).drop (List.sublist_append_right _ _)⟩
    · have hlt : d < a.tmps.size := by rw [h2]; exact blt_lt hd
      exact hK _ (by rw [put_defers]; exact h1) (by rw [put_size]; exact h2) (by show K Γ (envOf (a.put (some d) v)); rw [env_put a d v hlt, h3]; exact h)
  | false =>
    refine ⟨fun a h1 h2 h3 _ w h4 K' Q' hK => ?_, fun a _ _ _ hw => by simp [Region.wanted] at hw⟩
    unfold Oper.wp
    rw [eval_env, h3, hrun]
    show Calls P f _ w _
    refine Calls.mono (hf w h4).out ?_
    rintro e w' ⟨u, Γ', rfl, hu, hst⟩
    have hlt : d < a.tmps.size := by rw [h2]; exact blt_lt hd
    have := hR u Γ' hu
    subst this
    exact hK _ _ Γ (by rw [put_defers]; exact h1) (by rw [put_size]; exact h2) ((h4.over hst).drop (List.sublist_append_right _ _)) (by show K Γ (envOf (a.put (some d) _)); rw [env_put a d _ hlt, h3]; exact h)
end
theorem whole_run (name : String) (way : Ieee.Toward) {P : Program} {x m : Nat} {s : Bool} {e : Int} (h : Ieee.double.read x = .number s m e) (w : World) :
    (Go.Extern.MathFloor.toIntegral name way #[.float .f64 x]).run P w = .ok (.float .f64 (Ieee.double.write ((Ieee.double.read x).integral way))) w := by
  have key : Go.Extern.MathFloor.toIntegral name way #[.float .f64 x] = Go.Extern.MathFloor.toIntegral.match_1 (motive := fun _ => Sem Value) (FloatKind.f64.decode x) (fun s t => _) (fun d => pure (.float .f64 (FloatKind.f64.encode (d.integral way)))) := rfl
  have e0 : FloatKind.f64.decode x = .number s m e := h
  rw [key, e0, h]
  rfl

/-- An order turned, by places. -/
theorem permBy {α : Type} (l : List α) (z : α) (p q : List Nat) (h : p.Perm q) : (p.map (l.getD · z)).Perm (q.map (l.getD · z)) := h.map _

/-! ## A row of whole numbers -/
def vals (l : List Int) : List Value := l.map (.int .i64)
theorem vals_len (l : List Int) : (vals l).length = l.length := by simp [vals]
theorem vals_at {l : List Int} {sp : List Value} {i : Nat} {v : Int} (h : l[i]? = some v) : (vals l ++ sp).toArray[0 + i * 1]? = some (.int .i64 v) := by
  have hi : i < l.length := (List.getElem?_eq_some_iff.1 h).1
  rw [List.getElem?_toArray, Nat.zero_add, Nat.mul_one, List.getElem?_append_left (by rw [vals_len]; exact hi)]
  simp [vals, h]
theorem vals_set (l : List Int) (sp : List Value) (i : Nat) (v : Int) (h : i < l.length) : setN (vals l ++ sp).toArray (0 + i * 1) [.int .i64 v] = (vals (l.set i v) ++ sp).toArray := by
  apply Array.ext'
  simp only [setN, Nat.zero_add, Nat.mul_one, Array.toList_setIfInBounds]
  rw [List.set_append_left _ _ (by rw [vals_len]; exact h)]
  simp [vals]
theorem vals_size {l : List Int} {sp : List Value} {i : Nat} (h : i < l.length) : Nat.ble (0 + i * 1 + 1) (vals l ++ sp).toArray.size = true := by
  rw [Nat.ble_eq]; simp [vals_len]; omega
theorem vals_one (l : List Int) : ∀ u ∈ vals l, u.oneCell' = true := fun u hu => by
  unfold vals at hu
  rw [List.mem_map] at hu
  obtain ⟨i, _, rfl⟩ := hu; rfl
end Go.Pen
end
