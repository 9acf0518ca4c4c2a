/- The pen's rules, more: complex numbers compared; the low bits of an int. -/
import Derived.Test.YtjckoflcjkajiaaDoorPenM
import Derived.Laws.Cover3
set_option linter.unusedVariables false
set_option linter.unusedSimpArgs false
namespace Go.Pen
section
variable {P : Program} {n : Nat} {B : World} {I : List Nat} {Γ : List (Nat × Obj)} {ρ : Env} {ops : Array Oper} {md : Bool} {K : List (Nat × Obj) → Env → Prop}
  {d : Nat} {ty : TypeId} {pos : String} {af : Array Edge} {t t' e : TypeId} {x y : Operand} {k k' : IntKind}

theorem OP.ceql {a b c e : Nat} {r : Bool} (hr : ((Ieee.double.order a c == some .eq) && (Ieee.double.order b e == some .eq)) = r) (hd : Nat.blt d n = true) (hx : ev ρ x = .complex .f64 a b) (hy : ev ρ y = .complex .f64 c e) (h : K Γ (upd ρ d (.bool r))) :
    OP P n B I Γ md ops ⟨some d, .binOp .eql t x y t', ty, pos, af, none⟩ K ρ :=
  OP.pure1 _ hd (fun w _ => by
    have h1 := eqGuard_cx (P := P) .eql t x y a b c e w
    have h2 := run_eql_complex (P := P) (w := w) t .f64 a b c e
    rw [show FloatKind.f64.format = Ieee.double from rfl, hr] at h2
    simp only [execOp, hx, hy, Sem.run_bind, h1, h2, Result.andThen_ok, Sem.run_pure]) h
theorem OP.cneq {a b c e : Nat} {r : Bool} (hr : ((Ieee.double.order a c == some .eq) && (Ieee.double.order b e == some .eq)) = r) (hd : Nat.blt d n = true) (hx : ev ρ x = .complex .f64 a b) (hy : ev ρ y = .complex .f64 c e) (h : K Γ (upd ρ d (.bool !r))) :
    OP P n B I Γ md ops ⟨some d, .binOp .neq t x y t', ty, pos, af, none⟩ K ρ :=
  OP.pure1 _ hd (fun w _ => by
    have h1 := eqGuard_cx (P := P) .neq t x y a b c e w
    have h2 := run_neq_complex (P := P) (w := w) t .f64 a b c e
    rw [show FloatKind.f64.format = Ieee.double from rfl, hr] at h2
    simp only [execOp, hx, hy, Sem.run_bind, h1, h2, Result.andThen_ok, Sem.run_pure]) h
end
theorem i64_and7 (n : Int) : bits .and .i64 n 7 = n % 8 := by
  have h7 : (BitVec.ofInt 64 7).toNat = 2 ^ 3 - 1 := by decide
  have key : (BitVec.ofInt 64 n &&& BitVec.ofInt 64 7).toNat = (n % ((2 ^ 64 : Nat) : Int)).toNat % 2 ^ 3 := by
    rw [BitVec.toNat_and, BitVec.toNat_ofInt, h7, Nat.and_two_pow_sub_one_eq_mod]
  show IntKind.i64.wrap ((BitVec.ofInt 64 n &&& BitVec.ofInt 64 7).toNat : Nat) = n % 8
  rw [key, IntKind.wrap_i64]
  omega
theorem cxs_sees {w : World} {b o : Nat} {l : List Cx} (h : RdC w b o l) (Γ : List (Nat × Obj)) : SeesN w [] Γ b o (cxs l) := ⟨fun j v hv => by
  have hj : j < l.length := by have := (List.getElem?_eq_some_iff.1 hv).1; rwa [cxs_len] at this
  have e : v = .complex .f64 l[j].1 l[j].2 := by
    have := hv; unfold cxs at this; rw [List.getElem?_map, List.getElem?_eq_getElem hj] at this; exact (Option.some.inj this).symm
  rw [e]
  have := h.see (List.getElem?_eq_getElem hj) Γ
  rwa [Nat.mul_one] at this⟩
end Go.Pen
