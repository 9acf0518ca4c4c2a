/- The pen's rules, more: complex numbers, signs of floats, whole numbers made floats, shifts. -/
import Derived.Test.YtjckoflcjkajiaaDoorPenK
import Derived.Laws.ComplexArith
set_option linter.unusedVariables false
set_option linter.unusedSimpArgs false
namespace Go.Pen
section
variable {P : Program} {n : Nat} {B : World} {I : List Nat} {Γ : List (Nat × Obj)} {ρ : Env} {ops : Array Oper} {md : Bool} {K : List (Nat × Obj) → Env → Prop}
  {d : Nat} {ty : TypeId} {pos : String} {af : Array Edge} {t t' e : TypeId} {x y : Operand} {k k' : IntKind}

theorem OP.csum {op : BinOp} {a b c e re im : Nat} (hop : op = .add ∨ op = .sub) (hd : Nat.blt d n = true) (hx : ev ρ x = .complex .f64 a b) (hy : ev ρ y = .complex .f64 c e) (hr : cSumBits op .f64 a b c e = some (re, im)) (h : K Γ (upd ρ d (.complex .f64 re im))) :
    OP P n B I Γ md ops ⟨some d, .binOp op t x y t', ty, pos, af, none⟩ K ρ :=
  OP.pure1 _ hd (fun w _ => by
    have h1 := eqGuard_cx (P := P) op t x y a b c e w
    have h2 := run_complex_sum (P := P) w op hop t .f64 a b c e re im hr
    simp only [execOp, hx, hy, Sem.run_bind, h1, h2, Result.andThen_ok, Sem.run_pure]) h
theorem OP.fneg {a : Nat} (hd : Nat.blt d n = true) (hx : ev ρ x = .float .f64 a) (h : K Γ (upd ρ d (.float .f64 (a ^^^ 9223372036854775808)))) :
    OP P n B I Γ md ops ⟨some d, .unOp .neg t x, ty, pos, af, none⟩ K ρ :=
  OP.pure1 _ hd (fun w _ => by simp only [execOp, hx]; rfl) h
theorem OP.convIF {s : TypeId} {a : Int} {r : Nat} [hs : TInt P s k] (ht : P.underlying t = some (.float .f64)) (hd : Nat.blt d n = true) (hx : ev ρ x = .int k a) (hr : Ieee.double.write (.number (a < 0) a.natAbs 0) = r) (h : K Γ (upd ρ d (.float .f64 r))) :
    OP P n B I Γ md ops ⟨some d, .convert s t x, ty, pos, af, none⟩ K ρ :=
  OP.pure1 _ hd (fun w _ => by
    have e : (convert s t (.int k a)).run P w = .ok (.float .f64 r) w := by
      subst hr
      simp [convert, run_underlying hs.out, run_underlying ht, Conv.intToFloat]
      rfl
    simp only [execOp, hx, Sem.run_bind, e, Result.andThen_ok, Sem.run_pure]) h
theorem OP.quoR {a b r : Int} (hb : b ≠ 0) (hr : k.wrap (a.tdiv b) = r) (hd : Nat.blt d n = true) (hx : ev ρ x = .int k a) (hy : ev ρ y = .int k b) (h : K Γ (upd ρ d (.int k r))) :
    OP P n B I Γ md ops ⟨some d, .binOp .quo t x y t', ty, pos, af, none⟩ K ρ := OP.quot hd hx hy hb (by rw [hr]; exact h)
theorem OP.remR {a b r : Int} (hb : b ≠ 0) (hr : a.tmod b = r) (hd : Nat.blt d n = true) (hx : ev ρ x = .int k a) (hy : ev ρ y = .int k b) (h : K Γ (upd ρ d (.int k r))) :
    OP P n B I Γ md ops ⟨some d, .binOp .rem t x y t', ty, pos, af, none⟩ K ρ := OP.remt hd hx hy hb (by rw [hr]; exact h)
theorem quo_nat {a b c : Nat} (hc : a / b = c) (ha : a ≤ 9223372036854775807) : IntKind.i64.wrap ((a : Int).tdiv (b : Int)) = (c : Int) := by
  have h1 : a / b ≤ a := Nat.div_le_self a b
  rw [Int.tdiv_eq_ediv_of_nonneg (by omega), ← Int.natCast_ediv, hc]
  exact Fits.mem _ (by omega) (by omega)
theorem rem_nat {a b c : Nat} (hc : a % b = c) : (a : Int).tmod (b : Int) = (c : Int) := by
  rw [Int.tmod_eq_emod_of_nonneg (by omega), ← Int.natCast_emod, hc]
theorem run_shr (a : Int) (c : Nat) (hc : c ≤ k.bits) (w : World) : (binOp .shr t (.int k a) (.int k' (c : Int))).run P w = .ok (.int k (a.fdiv (2 ^ c))) w := by
  have : ¬ ((c : Int) < 0) := by omega
  simp only [binOp, Op.shift, if_neg this, Int.toNat_natCast, Nat.min_eq_left hc]
  rfl
theorem OP.shrN {a c : Nat} {cc : Int} (hcc : cc = (c : Int)) (hd : Nat.blt d n = true) (hx : ev ρ x = .int k (a : Int)) (hy : ev ρ y = .int k' cc) (hc : c ≤ k.bits) (h : K Γ (upd ρ d (.int k ((a / 2 ^ c : Nat) : Int)))) :
    OP P n B I Γ md ops ⟨some d, .binOp .shr t x y t', ty, pos, af, none⟩ K ρ := by
  subst hcc
  refine OP.pure1 _ hd (fun w _ => ?_) h
  have h1 := eqGuard_int (P := P) .shr t x y k k' (a : Int) (c : Int) w
  have h2 := run_shr (P := P) (t := t) (k := k) (k' := k') (a : Int) c hc w
  have e : (a : Int).fdiv (2 ^ c) = ((a / 2 ^ c : Nat) : Int) := by
    rw [Int.fdiv_eq_ediv_of_nonneg _ (by exact Int.le_of_lt (Int.pow_pos (by decide)))]
    rw [show ((2 : Int) ^ c) = ((2 ^ c : Nat) : Int) by rw [Int.natCast_pow]; rfl, ← Int.natCast_ediv]
  rw [e] at h2
  simp only [execOp, hx, hy, Sem.run_bind, h1, h2, Result.andThen_ok, Sem.run_pure]
theorem run_shl (a : Int) (c : Nat) (hc : c ≤ k.bits) (w : World) : (binOp .shl t (.int k a) (.int k' (c : Int))).run P w = .ok (.int k (k.wrap (a * 2 ^ c))) w := by
  have : ¬ ((c : Int) < 0) := by omega
  simp only [binOp, Op.shift, if_neg this, Int.toNat_natCast, Nat.min_eq_left hc]
  rfl
theorem OP.shlI {a cc r : Int} {c : Nat} (hcc : cc = (c : Int)) (hd : Nat.blt d n = true) (hx : ev ρ x = .int k a) (hy : ev ρ y = .int k' cc) (hc : c ≤ k.bits) (hr : k.wrap (a * 2 ^ c) = r) (h : K Γ (upd ρ d (.int k r))) :
    OP P n B I Γ md ops ⟨some d, .binOp .shl t x y t', ty, pos, af, none⟩ K ρ := by
  subst hcc
  refine OP.pure1 _ hd (fun w _ => ?_) h
  have h1 := eqGuard_int (P := P) .shl t x y k k' a (c : Int) w
  have h2 := run_shl (P := P) (t := t) (k := k) (k' := k') a c hc w
  rw [hr] at h2
  simp only [execOp, hx, hy, Sem.run_bind, h1, h2, Result.andThen_ok, Sem.run_pure]
theorem sqrt_run {P : Program} {x r : Nat} (h : Ieee.double.sqrt x = some r) (w : World) : (Go.Extern.MathSqrt.sqrt #[.float .f64 x]).run P w = .ok (.float .f64 r) w := by
  have e : FloatKind.f64.format.sqrt x = some r := h
  have key : Go.Extern.MathSqrt.sqrt #[.float .f64 x] = Go.Extern.MathSqrt.sqrt.match_1 (motive := fun _ => Sem Value) (FloatKind.f64.format.sqrt x) (fun r => pure (.float .f64 r)) (fun _ => _) := rfl
  rw [key, e]; rfl
end

/-! ## A row of complex numbers -/
abbrev Cx := Nat × Nat
def cxs (l : List Cx) : List Value := l.map fun c => .complex .f64 c.1 c.2
theorem cxs_len (l : List Cx) : (cxs l).length = l.length := by simp [cxs]
theorem cxs_at {l : List Cx} {sp : List Value} {i : Nat} {v : Cx} (h : l[i]? = some v) : (cxs l ++ sp).toArray[0 + i * 1]? = some (.complex .f64 v.1 v.2) := by
  have hi : i < l.length := (List.getElem?_eq_some_iff.1 h).1
  rw [List.getElem?_toArray, Nat.zero_add, Nat.mul_one, List.getElem?_append_left (by rw [cxs_len]; exact hi)]
  simp [cxs, h]
theorem cxs_set (l : List Cx) (sp : List Value) (i : Nat) (v : Cx) (h : i < l.length) : setN (cxs l ++ sp).toArray (0 + i * 1) [.complex .f64 v.1 v.2] = (cxs (l.set i v) ++ sp).toArray := by
  apply Array.ext'
  simp only [setN, Nat.zero_add, Nat.mul_one, Array.toList_setIfInBounds]
  rw [List.set_append_left _ _ (by rw [cxs_len]; exact h)]
  simp [cxs]
theorem cxs_size {l : List Cx} {sp : List Value} {i : Nat} (h : i < l.length) : Nat.ble (0 + i * 1 + 1) (cxs l ++ sp).toArray.size = true := by
  rw [Nat.ble_eq]; simp [cxs_len]; omega
theorem cxs_one (l : List Cx) : ∀ u ∈ cxs l, u.oneCell' = true := fun u hu => by
  unfold cxs at hu
  rw [List.mem_map] at hu
  obtain ⟨i, _, rfl⟩ := hu; rfl
/-- Complex numbers, read at one place. -/
structure RdC (w : World) (b o : Nat) (l : List Cx) : Prop where
  c : ∀ (i : Nat) (v : Cx), l[i]? = some v → w.cell? ⟨b, o + i * 1, none⟩ = some (.complex .f64 v.1 v.2)
theorem RdC.over {w w' : World} {b o : Nat} {l : List Cx} {Γ : List (Nat × Obj)} {I : List Nat} (h : RdC w b o l) (hw : St w I Γ w') (hb : b ∉ I) : RdC w' b o l := ⟨fun i v hi => hw.old (h.c i v hi) hb⟩
theorem RdC.see {w : World} {b o : Nat} {l : List Cx} (h : RdC w b o l) {i : Nat} {v : Cx} (hi : l[i]? = some v) (Γ : List (Nat × Obj)) : Sees w [] Γ b (o + i * 1) (.complex .f64 v.1 v.2) := Sees.old0 (h.c i v hi)
theorem RdC.own {w B : World} {I : List Nat} {Γ : List (Nat × Obj)} {b : Nat} {l : List Cx} {sp : List Value} {T : TypeId} (hw : St B I Γ w) (hm : (b, .cells (cxs l ++ sp).toArray T (0, 0)) ∈ Γ) : RdC w b 0 l := ⟨fun i v hi => cell_of (hw.has _ hm) (cxs_at hi)⟩
theorem cxs_append (l l' : List Cx) : cxs (l ++ l') = cxs l ++ cxs l' := by simp [cxs]
end Go.Pen
