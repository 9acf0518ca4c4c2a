/- Texts joined: PenD. -/
import Derived.Test.YthecbhegjdcjfaaDoorJp2
import Derived.Laws.StructEq
section
/- The pen's rules, more: structs held against each other. -/
set_option linter.unusedVariables false
set_option linter.unusedSimpArgs false
namespace Go.Pen

section
variable {P : Program} {n : Nat} {B : World} {I : List Nat} {Γ Γ1 Γ2 : List (Nat × Obj)} {ρ : Env} {ops : Array Oper} {md : Bool} {K : List (Nat × Obj) → Env → Prop}
  {d : Nat} {ty : TypeId} {pos : String} {af : Array Edge} {t e t' : TypeId} {x y : Operand} {b i : Nat} {v : Value} {k : IntKind}

/-- A struct of two whole numbers, which '==' takes. -/
class TEq2 (P : Program) (t : TypeId) : Prop where
  eq : ∀ (a b c d : Int) (w : World), (Op.equal t (.agg #[.int .i64 a, .int .i64 b]) (.agg #[.int .i64 c, .int .i64 d])).run P w = .ok (decide (a = c ∧ b = d)) w
  guard : P.eqGuardType P.depth t = false
theorem TEq2.mk' {f0 f1 : Field} (h : P.underlying t = some (.struct #[f0, f1])) (n0 : f0.name ≠ "_") (n1 : f1.name ≠ "_") (o0 : f0.offset = 0) (o1 : f1.offset = 1)
    (t0 : TInt P f0.type .i64) (t1 : TInt P f1.type .i64) (hp : P.stoodInHeld t = false) (hg : P.eqGuardType P.depth t = false) : TEq2 P t where
  guard := hg
  eq := fun a b c d w => by
    have hf : P.fieldsOf t = #[f0, f1] := by simp [Program.fieldsOf, h]
    have s0 : ∀ w, (isAgg f0.type).run P w = .ok false w := fun w => by simp [isAgg, run_underlying t0.out]
    have s1 : ∀ w, (isAgg f1.type).run P w = .ok false w := fun w => by simp [isAgg, run_underlying t1.out]
    have e0 : ∀ a c w, (Op.equalIn 9999 f0.type (.int .i64 a) (.int .i64 c)).run P w = .ok (a == c) w := fun a c w => run_equalIn_int w 9998 f0.type .i64 .i64 a c t0.out
    have e1 : ∀ a c w, (Op.equalIn 9999 f1.type (.int .i64 a) (.int .i64 c)).run P w = .ok (a == c) w := fun a c w => run_equalIn_int w 9998 f1.type .i64 .i64 a c t1.out
    have := run_equalIn_struct (P := P) w 9999 t #[.int .i64 a, .int .i64 b] #[.int .i64 c, .int .i64 d] (by rw [hf]; exact h) hp
    show (Op.equalIn 10000 t _ _).run P w = _
    rw [this, hf]
    by_cases h0 : a = c
    · by_cases h1 : b = d
      · simp [Op.eqFields, part, s0, s1, n0, n1, o0, o1, e0, e1, h0, h1]
      · have : (b == d) = false := by simpa using h1
        simp [Op.eqFields, part, s0, s1, n0, n1, o0, o1, e0, e1, h0, h1]
    · have : (a == c) = false := by simpa using h0
      simp [Op.eqFields, part, s0, s1, n0, n1, o0, o1, e0, e1, h0]
theorem eqGuard_agg {op : BinOp} (hg : P.eqGuardType P.depth t = false) (as bs : Array Value) (w : World) : (eqGuard op t x y (.agg as) (.agg bs)).run P w = .ok () w := by
  cases op <;> simp [eqGuard, hg]
theorem OP.eql2 {a b c e : Int} [hT : TEq2 P t] (hd : Nat.blt d n = true) (hx : ev ρ x = .agg #[.int .i64 a, .int .i64 b]) (hy : ev ρ y = .agg #[.int .i64 c, .int .i64 e]) (h : K Γ (upd ρ d (.bool (decide (a = c ∧ b = e))))) :
    OP P n B I Γ md ops ⟨some d, .binOp .eql t x y t', ty, pos, af, none⟩ K ρ :=
  OP.pure1 _ hd (fun w _ => by
    have h1 := eqGuard_agg (P := P) (x := x) (y := y) (op := .eql) hT.guard #[.int .i64 a, .int .i64 b] #[.int .i64 c, .int .i64 e] w
    have h2 := hT.eq a b c e w
    have h3 : (binOp .eql t (.agg #[.int .i64 a, .int .i64 b]) (.agg #[.int .i64 c, .int .i64 e])).run P w = .ok (.bool (decide (a = c ∧ b = e))) w := by
      simp only [binOp, Sem.run_bind, h2, Result.andThen_ok, Sem.run_pure]
    simp only [execOp, hx, hy, Sem.run_bind, h1, h3, Result.andThen_ok, Sem.run_pure]) h
theorem OP.neq2 {a b c e : Int} [hT : TEq2 P t] (hd : Nat.blt d n = true) (hx : ev ρ x = .agg #[.int .i64 a, .int .i64 b]) (hy : ev ρ y = .agg #[.int .i64 c, .int .i64 e]) (h : K Γ (upd ρ d (.bool (decide (¬ (a = c ∧ b = e)))))) :
    OP P n B I Γ md ops ⟨some d, .binOp .neq t x y t', ty, pos, af, none⟩ K ρ :=
  OP.pure1 _ hd (fun w _ => by
    have h1 := eqGuard_agg (P := P) (x := x) (y := y) (op := .neq) hT.guard #[.int .i64 a, .int .i64 b] #[.int .i64 c, .int .i64 e] w
    have h2 := hT.eq a b c e w
    have h3 : (binOp .neq t (.agg #[.int .i64 a, .int .i64 b]) (.agg #[.int .i64 c, .int .i64 e])).run P w = .ok (.bool (decide (¬ (a = c ∧ b = e)))) w := by
      simp only [binOp, Sem.run_bind, h2, Result.andThen_ok, Sem.run_pure, decide_not]
    simp only [execOp, hx, hy, Sem.run_bind, h1, h3, Result.andThen_ok, Sem.run_pure]) h
class TBool (P : Program) (t : TypeId) : Prop where
  out : P.underlying t = some .bool
theorem run_eqb {p q : Bool} [hT : TBool P t] (w : World) : (Op.equal t (.bool p) (.bool q)).run P w = .ok (p == q) w := run_equalIn_bool' w 9999 t p q hT.out
/-- '==' and '!=' of two bools. -/
theorem OP.eqlb {p q : Bool} [hT : TBool P t] (hd : Nat.blt d n = true) (hx : ev ρ x = .bool p) (hy : ev ρ y = .bool q) (h : K Γ (upd ρ d (.bool (p == q)))) :
    OP P n B I Γ md ops ⟨some d, .binOp .eql t x y t', ty, pos, af, none⟩ K ρ :=
  OP.pure1 _ hd (fun w _ => by
    have h3 : (binOp .eql t (.bool p) (.bool q)).run P w = .ok (.bool (p == q)) w := by
      simp only [binOp, Sem.run_bind, run_eqb, Result.andThen_ok, Sem.run_pure]
    have h1 : (eqGuard .eql t x y (.bool p) (.bool q)).run P w = .ok () w := rfl
    simp only [execOp, hx, hy, Sem.run_bind, h1, h3, Result.andThen_ok, Sem.run_pure]) h
theorem OP.eqd {p q : Prop} [Decidable p] [Decidable q] [hT : TBool P t] (hd : Nat.blt d n = true) (hx : ev ρ x = .bool (decide p)) (hy : ev ρ y = .bool (decide q)) (h : K Γ (upd ρ d (.bool (decide (p ↔ q))))) :
    OP P n B I Γ md ops ⟨some d, .binOp .eql t x y t', ty, pos, af, none⟩ K ρ :=
  OP.eqlb hd hx hy (by
    have e : (decide p == decide q) = decide (p ↔ q) := by
      by_cases hp : p <;> by_cases hq : q <;> simp [hp, hq]
    rw [e]; exact h)
theorem OP.neqd {p q : Prop} [Decidable p] [Decidable q] [hT : TBool P t] (hd : Nat.blt d n = true) (hx : ev ρ x = .bool (decide p)) (hy : ev ρ y = .bool (decide q)) (h : K Γ (upd ρ d (.bool (decide (¬ (p ↔ q)))))) :
    OP P n B I Γ md ops ⟨some d, .binOp .neq t x y t', ty, pos, af, none⟩ K ρ :=
  OP.pure1 _ hd (fun w _ => by
    have e : (!(decide p == decide q)) = decide (¬ (p ↔ q)) := by
      by_cases hp : p <;> by_cases hq : q <;> simp [hp, hq]
    have h3 : (binOp .neq t (.bool (decide p)) (.bool (decide q))).run P w = .ok (.bool (decide (¬ (p ↔ q)))) w := by
      simp only [binOp, Sem.run_bind, run_eqb, Result.andThen_ok, Sem.run_pure, e]
    have h1 : (eqGuard .neq t x y (.bool (decide p)) (.bool (decide q))).run P w = .ok () w := rfl
    simp only [execOp, hx, hy, Sem.run_bind, h1, h3, Result.andThen_ok, Sem.run_pure]) h
end
end Go.Pen
end
